import PyProof.Rows.All
import Wide.All
import OpenK.AllK
import Wide.FinOn
import HandS.ForMost
import HandS.TupAny
import HandS.Flow
import HandS.NoneIn
import HandS.Zip
import HandS.Rev
import HandS.RevRange
import HandS.Comp
import HandS.Words
import HandS.Dict
import HandS.WideBits
import HandS.Wide
import HandS.SortInts
import HandS.SetFor
import HandS.TupMul
import HandS.RaiseMore
import HandS.IsInst
import PyProof.ReprRoads
import HandS.RevTup
import HandS.Deep
import HandS.WordsDict
import HandS.Text
import HandS.Style
import HandS.Ends
import HandS.More
import HandS.DictComp
import KE.GoesEnum
import HandS.Flt
import PySem.Challenge.RW_firstthatfits_k37_whole_numbers_taken
set_option Elab.async false
set_option linter.all false
set_option maxRecDepth 100000
set_option maxHeartbeats 4000000
namespace Pv
open PySem PySem.Spec PyProof.Rows L2

abbrev D := PyData
/-- what a slot or a result holds: frozen data, or a list or dict that only this place knows -/
inductive O where
  | val (d : D)
  | own (xs : List O)
  | odic (kvs : List (Key × O))

/-- a list that is read: of ours, or one that the module wrote (a plain object) -/
def SqK (K : PySem.W.Frag) (G : Hp) (a : Addr) (xs : List V) : Prop := Rd G a (.lst xs) ∨ ∃ (its : List Value) (n : Nat), K.lookup a = some { cls := .type "list", data := .seq its.toArray n } ∧ its.length ≤ sizeLine ∧ Vals xs its
theorem SqK.l {K : PySem.W.Frag} {G : Hp} {a : Addr} {xs : List V} : SqK K G a xs → SqL K G a xs
  | .inl h => .inl h
  | .inr ⟨its, n, hk, hz, r⟩ => .inr ⟨_, its.toArray, n, hk, rfl, rfl, rfl, by simpa using hz, by simpa using r⟩
mutual
/-- frozen data that stands in G -/
inductive Dq (K : PySem.W.Frag) (G : Hp) : V → D → Prop
  | non : Dq K G .non .none
  | bl (b : Bool) : Dq K G (.bl b) (.bool b)
  | int (i : Int) : Dq K G (.int i) (.int i)
  | str (x : Str) : Dq K G (.str x) (.str x)
  | lst {a xs ds} : SqK K G a xs → DqAll K G xs ds → Dq K G (.ref a) (.list ds)
  | tup {a xs ds} : SqT K G a xs → DqAll K G xs ds → Dq K G (.ref a) (.tuple ds)
inductive DqAll (K : PySem.W.Frag) (G : Hp) : List V → List D → Prop
  | nil : DqAll K G [] []
  | cons {v vs d ds} : Dq K G v d → DqAll K G vs ds → DqAll K G (v :: vs) (d :: ds)
end
mutual
inductive Ro (K : PySem.W.Frag) (G H : Hp) : V → O → List Addr → Prop
  | val {v d} : Dq K G v d → Ro K G H v (.val d) []
  | own {a vs os A} : H a = some (.lst vs) → Ros K G H vs os A → Ro K G H (.ref a) (.own os) (a :: A)
  | odic {a kvs kos A} : H a = some (.dK kvs) → Rok K G H kvs kos A → Ro K G H (.ref a) (.odic kos) (a :: A)
inductive Ros (K : PySem.W.Frag) (G H : Hp) : List V → List O → List Addr → Prop
  | nil : Ros K G H [] [] []
  | cons {v o A vs os B} : Ro K G H v o A → Ros K G H vs os B → Ros K G H (v :: vs) (o :: os) (A ++ B)
inductive Rok (K : PySem.W.Frag) (G H : Hp) : List (Key × V) → List (Key × O) → List Addr → Prop
  | nil : Rok K G H [] [] []
  | cons {k v o A vs os B} : Ro K G H v o A → Rok K G H vs os B → Rok K G H ((k, v) :: vs) ((k, o) :: os) (A ++ B)
end

def Sub (G H : Hp) : Prop := ∀ a o, G a = some o → H a = some o
theorem Sub.refl (G : Hp) : Sub G G := fun _ _ h => h
theorem Sub.trans {G H J : Hp} (a : Sub G H) (b : Sub H J) : Sub G J := fun c o h => b c o (a c o h)
theorem Sub.none {G H : Hp} (s : Sub G H) {a : Addr} (h : H a = none) : G a = none := by
  cases e : G a with
  | none => rfl
  | some o => rw [s a o e] at h; cases h

theorem rd_mono {G G' : Hp} (s : Sub G G') {a : Addr} {u : HO} : Rd G a u → Rd G' a u
  | .inl h => .inl (s _ _ h)
  | .inr ⟨o, h⟩ => .inr ⟨o, s _ _ h⟩
theorem sqk_mono {K : PySem.W.Frag} {G G' : Hp} (s : Sub G G') {a : Addr} {xs : List V} : SqK K G a xs → SqK K G' a xs
  | .inl h => .inl (rd_mono s h)
  | .inr h => .inr h
theorem sql_mono {K : PySem.W.Frag} {G G' : Hp} (s : Sub G G') {a : Addr} {xs : List V} : SqL K G a xs → SqL K G' a xs
  | .inl h => .inl (rd_mono s h)
  | .inr h => .inr h
theorem sqt_mono {K : PySem.W.Frag} {G G' : Hp} (s : Sub G G') {a : Addr} {xs : List V} : SqT K G a xs → SqT K G' a xs
  | .inl h => .inl (rd_mono s h)
  | .inr h => .inr h

mutual
theorem dp_mono {K : PySem.W.Frag} {G G' : Hp} (s : Sub G G') : ∀ (d : D) (v : V), Dq K G v d → Dq K G' v d
  | .none, _, h => by cases h; exact .non
  | .bool _, _, h => by cases h; exact .bl _
  | .int _, _, h => by cases h; exact .int _
  | .str _, _, h => by cases h; exact .str _
  | .list ds, _, h => by cases h with | lst h1 h2 => exact .lst (sqk_mono s h1) (dps_mono s ds _ h2)
  | .tuple ds, _, h => by cases h with | tup h1 h2 => exact .tup (sqt_mono s h1) (dps_mono s ds _ h2)
  | .dict _, _, h => by cases h
theorem dps_mono {K : PySem.W.Frag} {G G' : Hp} (s : Sub G G') : ∀ (ds : List D) (vs : List V), DqAll K G vs ds → DqAll K G' vs ds
  | [], _, h => by cases h; exact .nil
  | d :: ds, _, h => by cases h with | cons h1 h2 => exact .cons (dp_mono s d _ h1) (dps_mono s ds _ h2)
end

mutual
theorem dq_dp {K : PySem.W.Frag} {G : Hp} : ∀ (d : D) (v : V), Dq K G v d → Dp K G v d
  | .none, _, h => by cases h; exact .non
  | .bool _, _, h => by cases h; exact .bl _
  | .int _, _, h => by cases h; exact .int _
  | .str _, _, h => by cases h; exact .str _
  | .list ds, _, h => by cases h with | lst h1 h2 => exact .lst h1.l (dqs_dps ds _ h2)
  | .tuple ds, _, h => by cases h with | tup h1 h2 => exact .tup h1 (dqs_dps ds _ h2)
  | .dict _, _, h => by cases h
theorem dqs_dps {K : PySem.W.Frag} {G : Hp} : ∀ (ds : List D) (vs : List V), DqAll K G vs ds → DpAll K G vs ds
  | [], _, h => by cases h; exact .nil
  | d :: ds, _, h => by cases h with | cons h1 h2 => exact .cons (dq_dp d _ h1) (dqs_dps ds _ h2)
end

section
variable {K : PySem.W.Frag} {G G' H H' : Hp}
mutual
theorem ro_mono (s : Sub G G') : ∀ (o : O) (v : V) (A : List Addr), (∀ a ∈ A, H' a = H a) → Ro K G H v o A → Ro K G' H' v o A
  | .val d, v, A, k, h => by cases h with | val h => exact .val (dp_mono s d v h)
  | .own os, v, A, k, h => by
    cases h with
    | own h1 h2 => exact .own (by rw [k _ (List.mem_cons_self)]; exact h1) (ros_mono s os _ _ (fun a ha => k a (List.mem_cons_of_mem _ ha)) h2)
  | .odic os, v, A, k, h => by
    cases h with
    | odic h1 h2 => exact .odic (by rw [k _ (List.mem_cons_self)]; exact h1) (rok_mono s os _ _ (fun a ha => k a (List.mem_cons_of_mem _ ha)) h2)
theorem ros_mono (s : Sub G G') : ∀ (os : List O) (vs : List V) (A : List Addr), (∀ a ∈ A, H' a = H a) → Ros K G H vs os A → Ros K G' H' vs os A
  | [], _, _, k, h => by cases h; exact .nil
  | o :: os, _, _, k, h => by
    cases h with
    | cons h1 h2 => exact .cons (ro_mono s o _ _ (fun a ha => k a (List.mem_append_left _ ha)) h1) (ros_mono s os _ _ (fun a ha => k a (List.mem_append_right _ ha)) h2)
theorem rok_mono (s : Sub G G') : ∀ (os : List (Key × O)) (vs : List (Key × V)) (A : List Addr), (∀ a ∈ A, H' a = H a) → Rok K G H vs os A → Rok K G' H' vs os A
  | [], _, _, k, h => by cases h; exact .nil
  | (q, o) :: os, _, _, k, h => by
    cases h with
    | cons h1 h2 => exact .cons (ro_mono s o _ _ (fun a ha => k a (List.mem_append_left _ ha)) h1) (rok_mono s os _ _ (fun a ha => k a (List.mem_append_right _ ha)) h2)
end
mutual
theorem ro_some : ∀ (o : O) (v : V) (A : List Addr), Ro K G H v o A → ∀ a ∈ A, ∃ u, H a = some u
  | .val d, v, A, h, a, ha => by cases h with | val h => cases ha
  | .own os, v, A, h, a, ha => by
    cases h with
    | own h1 h2 =>
      rcases List.mem_cons.mp ha with e | ha
      · exact ⟨_, e ▸ h1⟩
      · exact ros_some os _ _ h2 a ha
  | .odic os, v, A, h, a, ha => by
    cases h with
    | odic h1 h2 =>
      rcases List.mem_cons.mp ha with e | ha
      · exact ⟨_, e ▸ h1⟩
      · exact rok_some os _ _ h2 a ha
theorem ros_some : ∀ (os : List O) (vs : List V) (A : List Addr), Ros K G H vs os A → ∀ a ∈ A, ∃ u, H a = some u
  | [], _, _, h, a, ha => by cases h; cases ha
  | o :: os, _, _, h, a, ha => by
    cases h with
    | cons h1 h2 =>
      rcases List.mem_append.mp ha with ha | ha
      · exact ro_some o _ _ h1 a ha
      · exact ros_some os _ _ h2 a ha
theorem rok_some : ∀ (os : List (Key × O)) (vs : List (Key × V)) (A : List Addr), Rok K G H vs os A → ∀ a ∈ A, ∃ u, H a = some u
  | [], _, _, h, a, ha => by cases h; cases ha
  | (q, o) :: os, _, _, h, a, ha => by
    cases h with
    | cons h1 h2 =>
      rcases List.mem_append.mp ha with ha | ha
      · exact ro_some o _ _ h1 a ha
      · exact rok_some os _ _ h2 a ha
end
end

/-! ### freezing -/
mutual
@[simp] def O.toD : O → Option D
  | .val d => some d
  | .own xs => match toDs xs with
    | some ds => some (.list ds)
    | none => none
  | .odic _ => none
@[simp] def toDs : List O → Option (List D)
  | [] => some []
  | o :: os => match O.toD o with
    | some d => (match toDs os with
      | some ds => some (d :: ds)
      | none => none)
    | none => none
end
@[simp] theorem toD_val (d : D) : (O.val d).toD = some d := by simp [O.toD]
@[simp] theorem toDs_vals : ∀ ds : List D, toDs (ds.map O.val) = some ds
  | [] => by simp [toDs]
  | d :: ds => by simp [toDs, toDs_vals ds]
@[simp] theorem toD_own (ds : List D) : (O.own (ds.map O.val)).toD = some (.list ds) := by simp [O.toD]

section
variable {K : PySem.W.Frag} {G G' H H' : Hp}
mutual
theorem ro_toD (s : Sub G G') : ∀ (o : O) (v : V) (A : List Addr) (d : D), (∀ a ∈ A, G' a = H a) → Ro K G H v o A → o.toD = some d → Dq K G' v d
  | .val d, v, A, e, k, h, hd => by
    cases h with
    | val h => simp at hd; subst hd; exact dp_mono s d v h
  | .own os, v, A, e, k, h, hd => by
    cases h with
    | own h1 h2 =>
      simp only [O.toD] at hd
      cases q : toDs os with
      | none => rw [q] at hd; cases hd
      | some ds =>
        rw [q] at hd; cases hd
        exact .lst (.inl (.inl (by rw [k _ List.mem_cons_self]; exact h1))) (ros_toD s os _ _ ds (fun a ha => k a (List.mem_cons_of_mem _ ha)) h2 q)
  | .odic os, v, A, e, k, h, hd => by simp [O.toD] at hd
theorem ros_toD (s : Sub G G') : ∀ (os : List O) (vs : List V) (A : List Addr) (ds : List D), (∀ a ∈ A, G' a = H a) → Ros K G H vs os A → toDs os = some ds → DqAll K G' vs ds
  | [], _, _, ds, k, h, hd => by cases h; simp [toDs] at hd; subst hd; exact .nil
  | o :: os, _, _, ds, k, h, hd => by
    cases h with
    | cons h1 h2 =>
      simp only [toDs] at hd
      cases q : O.toD o with
      | none => rw [q] at hd; cases hd
      | some d =>
        cases q2 : toDs os with
        | none => rw [q, q2] at hd; cases hd
        | some ds' =>
          rw [q, q2] at hd; cases hd
          exact .cons (ro_toD s o _ _ d (fun a ha => k a (List.mem_append_left _ ha)) h1 q) (ros_toD s os _ _ ds' (fun a ha => k a (List.mem_append_right _ ha)) h2 q2)
end
end
/-- frozen: the objects at A are put to G -/
def frzn (G H : Hp) (A : List Addr) : Hp := fun a => if a ∈ A then H a else G a
theorem frzn_ge {G H : Hp} {A : List Addr} (h : ∀ a ∈ A, G a = none) : Sub G (frzn G H A) := fun a o e => by
  unfold frzn
  by_cases q : a ∈ A
  · rw [h a q] at e; cases e
  · rw [if_neg q]; exact e
theorem frzn_sub {G H : Hp} {A : List Addr} (s : Sub G H) : Sub (frzn G H A) H := fun a o e => by
  unfold frzn at e
  by_cases q : a ∈ A
  · rw [if_pos q] at e; exact e
  · rw [if_neg q] at e; exact s a o e
theorem frzn_at {G H : Hp} {A : List Addr} : ∀ a ∈ A, frzn G H A a = H a := fun a h => by unfold frzn; rw [if_pos h]

/-! ### the frame -/
inductive Sl where
  | emp
  | wr (o : O)
  | rd (o : O)
abbrev Env := List Sl
abbrev Fp := Nat → List Addr
abbrev AS := Addr → Prop
def setF (fp : Fp) (i : Nat) (B : List Addr) : Fp := fun j => if j = i then B else fp j

/-- what is protected, slot by slot -/
abbrev Pt := Nat → AS
def Pr (P : Pt) : AS := fun a => ∃ k, P k a
/-- the addresses that the frame owns -/
def Own (env : Env) (fp : Fp) : AS := fun a => ∃ i o, env[i]? = some (.wr o) ∧ a ∈ fp i

structure Ok (K : PySem.W.Frag) (P : Pt) (G H : Hp) (σ : L2.St) (env : Env) (fp : Fp) : Prop where
  len : σ.length = env.length
  wr : ∀ i o, env[i]? = some (.wr o) → ∃ v, σ[i]? = some (some v) ∧ Ro K G H v o (fp i)
  rd : ∀ i o, env[i]? = some (.rd o) → ∃ v, σ[i]? = some (some v) ∧ Ro K G H v o (fp i)
  sub : Sub G H
  nd : ∀ i o, env[i]? = some (.wr o) → (fp i).Nodup
  off : ∀ i o a, env[i]? = some (.wr o) → a ∈ fp i → G a = none
  apart : ∀ i j o q a, i ≠ j → env[i]? = some (.wr o) → env[j]? = some (.wr q) → a ∈ fp i → a ∉ fp j
  prot : ∀ i o a, env[i]? = some (.rd o) → a ∈ fp i → P i a
  free : ∀ i o a, env[i]? = some (.wr o) → a ∈ fp i → ¬ Pr P a
  there : ∀ a, Pr P a → ∃ u, H a = some u

/-- from (G, H, owning A) to (G', H', owning A') -/
structure Stp (G H : Hp) (A : AS) (G' H' : Hp) (A' : AS) : Prop where
  ge : Sub G G'
  keep : ∀ a o, H a = some o → ¬ A a → H' a = some o
  own : ∀ a, A' a → A a ∨ H a = none
  frz : ∀ a o, G' a = some o → G a = some o ∨ A a ∨ H a = none
theorem Stp.refl (G H : Hp) (A : AS) : Stp G H A G H A := ⟨Sub.refl _, fun _ _ h _ => h, fun _ h => .inl h, fun _ _ h => .inl h⟩
theorem Stp.less {G H : Hp} {A : AS} {G' H' : Hp} {A' A2 : AS} (s : Stp G H A G' H' A') (h : ∀ a, A2 a → A' a) : Stp G H A G' H' A2 := ⟨s.ge, s.keep, fun a q => s.own a (h a q), s.frz⟩
theorem Stp.back {G H : Hp} {A : AS} {G1 H1 : Hp} {A1 : AS} (s : Stp G H A G1 H1 A1) {a : Addr} (h : H1 a = none) : A a ∨ H a = none := by
  cases q : H a with
  | none => exact .inr rfl
  | some o =>
    by_cases p : A a
    · exact .inl p
    · rw [s.keep a o q p] at h; cases h
theorem Stp.trans {G H : Hp} {A : AS} {G1 H1 : Hp} {A1 : AS} {G2 H2 : Hp} {A2 : AS} (s : Stp G H A G1 H1 A1) (t : Stp G1 H1 A1 G2 H2 A2) : Stp G H A G2 H2 A2 where
  ge := s.ge.trans t.ge
  keep := fun a o h n => t.keep a o (s.keep a o h n) fun p => (s.own a p).elim n fun q => by rw [h] at q; cases q
  own := fun a h => (t.own a h).elim (s.own a) fun q => s.back q
  frz := fun a o h => (t.frz a o h).elim (s.frz a o) fun q => .inr (q.elim (s.own a) fun q => s.back q)
end Pv

namespace Pv
open PySem PySem.Spec PyProof.Rows L2

/-! ### operands -/
inductive Opd where
  | slot (i : Nat)
  | tmp (o : O)

@[simp] def look : Opd → Env → Option O
  | .tmp o, _ => some o
  | .slot i, env => match env[i]? with
    | some (.wr o) => some o
    | some (.rd o) => some o
    | _ => none
@[simp] def looks : List Opd → Env → Option (List O)
  | [], _ => some []
  | p :: ps, env => (look p env).bind fun o => (looks ps env).bind fun os => some (o :: os)
theorem looks_cons {p : Opd} {ps : List Opd} {env : Env} {os : List O} (h : looks (p :: ps) env = some os) : ∃ o r, look p env = some o ∧ looks ps env = some r ∧ os = o :: r := by
  simp only [looks, Option.bind_eq_some_iff] at h
  obtain ⟨o, h1, r, h2, h3⟩ := h
  exact ⟨o, r, h1, h2, (Option.some.inj h3).symm⟩
theorem look_slot {i : Nat} {env : Env} {o : O} (h : look (.slot i) env = some o) : env[i]? = some (.wr o) ∨ env[i]? = some (.rd o) := by
  simp only [look] at h
  split at h
  · cases h; exact .inl (by assumption)
  · cases h; exact .inr (by assumption)
  · cases h

inductive Reps (K : PySem.W.Frag) (G H : Hp) (σ : L2.St) : List V → List Opd → List Addr → Prop
  | nil : Reps K G H σ [] [] []
  | slot {v i vs ps B} : σ[i]? = some (some v) → Reps K G H σ vs ps B → Reps K G H σ (v :: vs) (.slot i :: ps) B
  | tmp {v o B vs ps C} : Ro K G H v o B → Reps K G H σ vs ps C → Reps K G H σ (v :: vs) (.tmp o :: ps) (B ++ C)
theorem Reps.mono {K : PySem.W.Frag} {G G' H H' : Hp} {σ : L2.St} (s : Sub G G') {vs ps B} (h : Reps K G H σ vs ps B) : (∀ a ∈ B, H' a = H a) → Reps K G' H' σ vs ps B := by
  induction h with
  | nil => intro _; exact .nil
  | slot h _ ih => intro k; exact .slot h (ih k)
  | tmp h _ ih => intro k; exact .tmp (ro_mono s _ _ _ (fun a ha => k a (List.mem_append_left _ ha)) h) (ih fun a ha => k a (List.mem_append_right _ ha))
theorem Reps.there {K : PySem.W.Frag} {G H : Hp} {σ : L2.St} {vs ps B} (h : Reps K G H σ vs ps B) : ∀ a ∈ B, ∃ u, H a = some u := by
  induction h with
  | nil => intro a ha; cases ha
  | slot h _ ih => exact ih
  | tmp h _ ih =>
    intro a ha
    rcases List.mem_append.mp ha with ha | ha
    · exact ro_some _ _ _ h a ha
    · exact ih a ha
theorem Reps.length {K : PySem.W.Frag} {G H : Hp} {σ : L2.St} {vs ps B} (h : Reps K G H σ vs ps B) : vs.length = ps.length := by
  induction h with
  | nil => rfl
  | slot _ _ ih => simp [ih]
  | tmp _ _ ih => simp [ih]

/-- operands that stand: vs, the values; B, what the temporaries own -/
structure Tps (K : PySem.W.Frag) (P : Pt) (G H : Hp) (σ : L2.St) (A : AS) (vs : List V) (ps : List Opd) (B : List Addr) : Prop where
  rep : Reps K G H σ vs ps B
  nd : B.Nodup
  off : ∀ a ∈ B, ¬ A a ∧ G a = none ∧ ¬ Pr P a
theorem Tps.nil {K : PySem.W.Frag} {P : Pt} {G H : Hp} {σ : L2.St} {A : AS} : Tps K P G H σ A [] [] [] := ⟨.nil, List.nodup_nil, fun _ h => nomatch h⟩
theorem Tps.step {K : PySem.W.Frag} {P : Pt} {G H G1 H1 : Hp} {σ : L2.St} {A A1 : AS} {vs ps B} (t : Tps K P G H σ A vs ps B) (s : Stp G H A G1 H1 A1) : Tps K P G1 H1 σ A1 vs ps B := by
  have hk : ∀ a ∈ B, H1 a = H a := fun a ha => by
    obtain ⟨u, e⟩ := t.rep.there a ha
    rw [e]; exact s.keep a u e (t.off a ha).1
  refine ⟨t.rep.mono s.ge hk, t.nd, fun a ha => ?_⟩
  obtain ⟨u, e⟩ := t.rep.there a ha
  obtain ⟨n1, n2, n3⟩ := t.off a ha
  refine ⟨fun q => (s.own a q).elim n1 fun z => (by rw [e] at z; cases z), ?_, n3⟩
  cases q : G1 a with
  | none => rfl
  | some o =>
    rcases s.frz a o q with z | z | z
    · rw [n2] at z; cases z
    · exact absurd z n1
    · rw [e] at z; cases z
theorem Tps.cons {K : PySem.W.Frag} {P : Pt} {G H : Hp} {σ : L2.St} {A A1 : AS} {v p vs ps B C} (t : Tps K P G H σ A1 [v] [p] B) (u : Tps K P G H σ A vs ps C) (h : ∀ a, A a ∨ a ∈ C → A1 a) : Tps K P G H σ A (v :: vs) (p :: ps) (B ++ C) := by
  have rep : Reps K G H σ (v :: vs) (p :: ps) (B ++ C) := by
    have r := t.rep
    cases r with
    | slot h1 r => cases r; exact .slot h1 u.rep
    | tmp h1 r => cases r; rw [List.append_nil]; exact .tmp h1 u.rep
  refine ⟨rep, ?_, fun a ha => ?_⟩
  · rw [List.nodup_append]
    refine ⟨t.nd, u.nd, fun a ha b hb e => ?_⟩
    subst e
    exact (t.off a ha).1 (h a (.inr hb))
  · rcases List.mem_append.mp ha with ha | ha
    · exact ⟨fun q => (t.off a ha).1 (h a (.inl q)), (t.off a ha).2⟩
    · exact u.off a ha
theorem Tps.weak {K : PySem.W.Frag} {P : Pt} {G H : Hp} {σ : L2.St} {A A1 : AS} {vs ps B} (t : Tps K P G H σ A vs ps B) (h : ∀ a, A1 a → A a) : Tps K P G H σ A1 vs ps B := ⟨t.rep, t.nd, fun a ha => ⟨fun q => (t.off a ha).1 (h a q), (t.off a ha).2⟩⟩

/-- a borrowed sight -/
def View (K : PySem.W.Frag) (G H : Hp) (v : V) (o : O) : Prop := ∃ B, Ro K G H v o B
inductive Views (K : PySem.W.Frag) (G H : Hp) : List V → List O → Prop
  | nil : Views K G H [] []
  | cons {v o vs os} : View K G H v o → Views K G H vs os → Views K G H (v :: vs) (o :: os)
theorem Ok.view {K : PySem.W.Frag} {P : Pt} {G H : Hp} {σ : L2.St} {env : Env} {fp : Fp} (k : Ok K P G H σ env fp) {i : Nat} {v : V} {o : O} (hv : σ[i]? = some (some v)) (h : look (.slot i) env = some o) : View K G H v o := by
  rcases look_slot h with e | e
  · obtain ⟨v', h1, h2⟩ := k.wr i _ e
    rw [hv] at h1; cases h1
    exact ⟨_, h2⟩
  · obtain ⟨v', h1, h2⟩ := k.rd i _ e
    rw [hv] at h1; cases h1
    exact ⟨_, h2⟩
theorem Reps.views {K : PySem.W.Frag} {P : Pt} {G H : Hp} {σ : L2.St} {env : Env} {fp : Fp} (k : Ok K P G H σ env fp) {vs ps B} (r : Reps K G H σ vs ps B) : ∀ {os}, looks ps env = some os → Views K G H vs os := by
  induction r with
  | nil => intro os h; cases h; exact .nil
  | slot h1 _ ih =>
    intro os h
    obtain ⟨o, q, e1, e2, rfl⟩ := looks_cons h
    exact .cons (k.view h1 e1) (ih e2)
  | tmp h1 _ ih =>
    intro os h
    obtain ⟨o, q, e1, e2, rfl⟩ := looks_cons h
    cases e1
    exact .cons ⟨_, h1⟩ (ih e2)

/-! ### what a pure operation leaves -/
structure Ext (G H G' H' : Hp) (B : List Addr) : Prop where
  ge : Sub G G'
  keep : Sub H H'
  sub : Sub G' H'
  frz : ∀ a o, G' a = some o → G a = some o ∨ H a = none
  fresh : ∀ a ∈ B, H a = none ∧ G' a = none
  nd : B.Nodup
theorem Ext.refl {G H : Hp} (s : Sub G H) : Ext G H G H [] := ⟨Sub.refl _, Sub.refl _, s, fun _ _ h => .inl h, fun _ h => (nomatch h), List.nodup_nil⟩
/-- a new object that stays owned -/
theorem Ext.new {G H : Hp} (s : Sub G H) {p : Addr} {o : HO} (n : H p = none) : Ext G H G (upd H p o) [p] :=
  ⟨Sub.refl _, fun b u e => by rw [upd_ne (ne_of_none e n)]; exact e, fun b u e => by rw [upd_ne (ne_of_none (s b u e) n)]; exact s b u e, fun _ _ h => .inl h,
    fun a h => by rcases List.mem_singleton.mp h with rfl; exact ⟨n, s.none n⟩, by simp⟩
/-- a new object that is frozen at once -/
theorem Ext.newF {G H : Hp} (s : Sub G H) {p : Addr} {o : HO} (n : H p = none) : Ext G H (upd G p o) (upd H p o) [] where
  ge := fun b u e => by rw [upd_ne (ne_of_none e (s.none n))]; exact e
  keep := fun b u e => by rw [upd_ne (ne_of_none e n)]; exact e
  sub := fun b u e => by
    by_cases h : b = p
    · subst h; rw [upd_same] at e ⊢; exact e
    · rw [upd_ne h] at e ⊢; exact s b u e
  frz := fun b u e => by
    by_cases h : b = p
    · subst h; exact .inr n
    · rw [upd_ne h] at e; exact .inl e
  fresh := fun _ h => nomatch h
  nd := List.nodup_nil

section
variable {K : PySem.W.Frag} {P : Pt} {G H G' H' : Hp} {σ : L2.St} {env : Env} {fp : Fp} {B : List Addr}
theorem Ok.has (k : Ok K P G H σ env fp) {a : Addr} (h : Own env fp a) : ∃ u, H a = some u := by
  obtain ⟨i, o, e, ha⟩ := h
  obtain ⟨v, _, r⟩ := k.wr i o e
  exact ro_some _ _ _ r a ha
theorem Ok.ext (k : Ok K P G H σ env fp) (x : Ext G H G' H' B) : Ok K P G' H' σ env fp where
  len := k.len
  wr := fun i o e => let ⟨v, h1, h2⟩ := k.wr i o e; ⟨v, h1, ro_mono x.ge _ _ _ (fun a ha => by obtain ⟨u, q⟩ := ro_some _ _ _ h2 a ha; rw [q]; exact x.keep _ _ q) h2⟩
  rd := fun i o e => let ⟨v, h1, h2⟩ := k.rd i o e; ⟨v, h1, ro_mono x.ge _ _ _ (fun a ha => by obtain ⟨u, q⟩ := ro_some _ _ _ h2 a ha; rw [q]; exact x.keep _ _ q) h2⟩
  sub := x.sub
  nd := k.nd
  off := fun i o a e ha => by
    obtain ⟨u, q⟩ := k.has ⟨i, o, e, ha⟩
    cases z : G' a with
    | none => rfl
    | some w =>
      rcases x.frz a w z with y | y
      · rw [k.off i o a e ha] at y; cases y
      · rw [q] at y; cases y
  apart := k.apart
  prot := k.prot
  free := k.free
  there := fun a h => let ⟨u, e⟩ := k.there a h; ⟨u, x.keep _ _ e⟩
theorem Ok.extStp (k : Ok K P G H σ env fp) (x : Ext G H G' H' B) : Stp G H (Own env fp) G' H' (fun a => Own env fp a ∨ a ∈ B) where
  ge := x.ge
  keep := fun a o h _ => x.keep a o h
  own := fun a h => h.elim .inl fun q => .inr (x.fresh a q).1
  frz := fun a o h => (x.frz a o h).elim .inl fun q => .inr (.inr q)
theorem Ok.extTmp (k : Ok K P G H σ env fp) (x : Ext G H G' H' B) {v : V} {o : O} (r : Ro K G' H' v o B) : Tps K P G' H' σ (Own env fp) [v] [.tmp o] B := by
  refine ⟨by have q := Reps.tmp (σ := σ) r .nil; rw [List.append_nil] at q; exact q, x.nd, fun a ha => ⟨fun q => ?_, (x.fresh a ha).2, fun q => ?_⟩⟩
  · obtain ⟨u, e⟩ := k.has q
    rw [(x.fresh a ha).1] at e; cases e
  · obtain ⟨u, e⟩ := k.there a q
    rw [(x.fresh a ha).1] at e; cases e
end

/-! ### the readings -/
abbrev ME := Env → Option (Opd × Env)
abbrev MA := Env → Option (List Opd × Env)
abbrev MT := Env → Option (Bool × Env)
def tN (K : PySem.W.Frag) (m : ME) : TE := fun σ H Q => ∃ P G env fp p env', Ok K P G H σ env fp ∧ m env = some (p, env') ∧
  ∀ v G' H' fp' B, Stp G H (Own env fp) G' H' (fun a => Own env' fp' a ∨ a ∈ B) → Ok K P G' H' σ env' fp' → Tps K P G' H' σ (Own env' fp') [v] [p] B → Q v H'
def tNs (K : PySem.W.Frag) (m : MA) : TA := fun σ H Q => ∃ P G env fp ps env', Ok K P G H σ env fp ∧ m env = some (ps, env') ∧
  ∀ vs G' H' fp' B, Stp G H (Own env fp) G' H' (fun a => Own env' fp' a ∨ a ∈ B) → Ok K P G' H' σ env' fp' → Tps K P G' H' σ (Own env' fp') vs ps B → Q vs H'
def tBt (K : PySem.W.Frag) (m : MT) : TT := fun σ H Q => ∃ P G env fp b env', Ok K P G H σ env fp ∧ m env = some (b, env') ∧
  ∀ G' H' fp', Stp G H (Own env fp) G' H' (Own env' fp') → Ok K P G' H' σ env' fp' → Q b H'

theorem PE.imp {X : Cx} {e : Expr} {t t' : TE} (p : PE X e t) (h : ∀ σ H Q, t' σ H Q → t σ H Q) : PE X e t' := ⟨fun pins s σ H Q I q => p.run pins s σ H Q I (h σ H Q q)⟩
theorem PT.imp {X : Cx} {e : Expr} {t t' : TT} (p : PT X e t) (h : ∀ σ H Q, t' σ H Q → t σ H Q) : PT X e t' := ⟨fun pins s σ H Q I q => p.run pins s σ H Q I (h σ H Q q)⟩
theorem PW.imp {X : Cx} {e : Expr} {t t' : TT} (p : PW X e t) (h : ∀ σ H Q, t' σ H Q → t σ H Q) : PW X e t' := ⟨fun wh pins s σ H Q I q => p.run wh pins s σ H Q I (h σ H Q q)⟩
theorem PA.imp {X : Cx} {es : List Expr} {t t' : TA} (p : PA X es t) (h : ∀ σ H Q, t' σ H Q → t σ H Q) : PA X es t' := ⟨fun pos pins s σ H Q I q => p.run pos pins s σ H Q I (h σ H Q q)⟩
theorem PK.imp {X : Cx} {es : List Keyword} {t t' : TA} (p : PK X es t) (h : ∀ σ H Q, t' σ H Q → t σ H Q) : PK X es t' := ⟨fun pos pins s σ H Q I q => p.run pos pins s σ H Q I (h σ H Q q)⟩

/-- VE: the expression, as a function of the frame -/
abbrev VE (X : Cx) (e : Expr) (m : ME) : Prop := PE X e (tN X.K m)
abbrev VA (X : Cx) (es : List Expr) (m : MA) : Prop := PA X es (tNs X.K m)
abbrev VK' (X : Cx) (es : List Keyword) (m : MA) : Prop := PK X es (tNs X.K m)
abbrev VT (X : Cx) (e : Expr) (m : MT) : Prop := PT X e (tBt X.K m)

@[simp] def mVar (i : Nat) : ME := fun env => (look (.slot i) env).bind fun _ => some (.slot i, env)
@[simp] def mC (d : D) : ME := fun env => some (.tmp (.val d), env)
@[simp] def mNil : MA := fun env => some ([], env)
@[simp] def mCons (ma : ME) (mb : MA) : MA := fun env => (ma env).bind fun r => (mb r.2).bind fun s => some (r.1 :: s.1, s.2)

section
variable {X : Cx} {e a b : Expr} {es : List Expr} {pos : Pos}
theorem Ok.slot {K : PySem.W.Frag} {P : Pt} {G H : Hp} {σ : L2.St} {env : Env} {fp : Fp} (k : Ok K P G H σ env fp) {i : Nat} {o : O} (h : look (.slot i) env = some o) : ∃ v, σ[i]? = some (some v) := by
  rcases look_slot h with e | e
  · obtain ⟨v, h1, _⟩ := k.wr i _ e; exact ⟨v, h1⟩
  · obtain ⟨v, h1, _⟩ := k.rd i _ e; exact ⟨v, h1⟩
theorem Stp.refl' {G H : Hp} {A A' : AS} (h : ∀ a, A' a → A a) : Stp G H A G H A' := (Stp.refl G H A).less h

theorem ve_var {i : Nat} (h : PE X e (tVar i)) : VE X e (mVar i) := by
  refine PE.imp h fun σ H Q q => ?_
  obtain ⟨P, G, env, fp, p, env', k, hm, c⟩ := q
  simp only [mVar, Option.bind_eq_some_iff] at hm
  obtain ⟨o, z, hm⟩ := hm
  · cases hm
    obtain ⟨v, hv⟩ := k.slot z
    refine ⟨v, hv, c v G H fp [] (Stp.refl' fun a q => q.elim id fun z => nomatch z) k ⟨.slot hv .nil, List.nodup_nil, fun _ h => nomatch h⟩⟩
theorem ve_const {v : V} {d : D} (h : PE X e (tC v)) (r : ∀ G, Dq X.K G v d) : VE X e (mC d) := by
  refine PE.imp h fun σ H Q q => ?_
  obtain ⟨P, G, env, fp, p, env', k, hm, c⟩ := q
  cases hm
  exact c v G H fp [] (Stp.refl' fun a q => q.elim id fun z => nomatch z) k (k.extTmp (Ext.refl k.sub) (.val (r G)))

theorem va_nil : VA X [] mNil := by
  refine PA.imp pa_nil fun σ H Q q => ?_
  obtain ⟨P, G, env, fp, p, env', k, hm, c⟩ := q
  cases hm
  exact c [] G H fp [] (Stp.refl' fun a q => q.elim id fun z => nomatch z) k .nil
/-- the sequence of two -/
theorem seq_cons {K : PySem.W.Frag} {ma : ME} {mb : MA} {σ : L2.St} {H : Hp} {Q : List V → Hp → Prop} (q : tNs K (mCons ma mb) σ H Q) : tCons (tN K ma) (tNs K mb) σ H Q := by
  obtain ⟨P, G, env, fp, ps, env', k, hm, c⟩ := q
  simp only [mCons, Option.bind_eq_some_iff] at hm
  obtain ⟨⟨p, e1⟩, z, ⟨ps', e2⟩, z2, hm⟩ := hm
  · · cases hm
      refine ⟨P, G, env, fp, p, e1, k, z, fun v G1 H1 fp1 B1 s1 k1 t1 => ?_⟩
      refine ⟨P, G1, e1, fp1, ps', e2, k1, z2, fun vs G2 H2 fp2 B2 s2 k2 t2 => ?_⟩
      have t1' := t1.step s2
      refine c (v :: vs) G2 H2 fp2 (B1 ++ B2) ?_ k2 (t1'.cons t2 fun _ h => h)
      have s2' : Stp G1 H1 (fun a => Own e1 fp1 a ∨ a ∈ B1) G2 H2 (fun a => Own e2 fp2 a ∨ a ∈ B1 ++ B2) := by
        refine ⟨s2.ge, fun a o h n => s2.keep a o h fun q => n (.inl q), fun a h => ?_, fun a o h => ?_⟩
        · rcases h with h | h
          · exact (s2.own a (.inl h)).imp .inl id
          · rcases List.mem_append.mp h with h | h
            · exact .inl (.inr h)
            · exact (s2.own a (.inr h)).imp .inl id
        · rcases s2.frz a o h with z | z | z
          · exact .inl z
          · exact .inr (.inl (.inl z))
          · exact .inr (.inr z)
      exact s1.trans s2'
theorem va_cons {ma : ME} {mb : MA} (ha : VE X e ma) (hb : VA X es mb) (hs : starEach (e :: es) X.env = (false, eval e X.env) :: starEach es X.env := by rfl) : VA X (e :: es) (mCons ma mb) :=
  PA.imp (pa_cons ha hb hs) fun _ _ _ q => seq_cons q
theorem vk_nil : VK' X [] mNil := by
  refine PK.imp pk_nil fun σ H Q q => ?_
  obtain ⟨P, G, env, fp, p, env', k, hm, c⟩ := q
  cases hm
  exact c [] G H fp [] (Stp.refl' fun a q => q.elim id fun z => nomatch z) k .nil
theorem vk_cons {ma : ME} {mb : MA} {nm : Option Str} {kpos : Pos} {kws : List Keyword} (ha : VE X e ma) (hb : VK' X kws mb) : VK' X (⟨nm, e, kpos⟩ :: kws) (mCons ma mb) :=
  PK.imp (pk_cons ha hb) fun _ _ _ q => seq_cons q

/-! ### pure operations -/
def PureC (K : PySem.W.Frag) (f : List O → Option O) (r : List V → Hp → VK → Prop) : Prop :=
  ∀ (G H : Hp) (vs : List V) (os : List O) (o : O) (Q : VK), Sub G H → Views K G H vs os → f os = some o → (∀ v G' H' B, Ext G H G' H' B → Ro K G' H' v o B → Q v H') → r vs H Q
@[simp] def mCall (f : List O → Option O) (ms : MA) : ME := fun env => (ms env).bind fun r => (looks r.1 r.2).bind fun os => (f os).bind fun o => some (.tmp o, r.2)
/-- the operation behind its operands -/
theorem seq_op {K : PySem.W.Frag} {f : List O → Option O} {ms : MA} {r : List V → Hp → VK → Prop} (hf : PureC K f r) {σ : L2.St} {H : Hp} {Q : VK} (q : tN K (mCall f ms) σ H Q) : tNs K ms σ H fun vs H1 => r vs H1 Q := by
  obtain ⟨P, G, env, fp, p, env', k, hm, c⟩ := q
  simp only [mCall, Option.bind_eq_some_iff] at hm
  obtain ⟨⟨ps, e1⟩, z, os, z2, o, z3, hm⟩ := hm
  · · · cases hm
        refine ⟨P, G, env, fp, ps, e1, k, z, fun vs G1 H1 fp1 B1 s1 k1 t1 => ?_⟩
        refine hf G1 H1 vs os o _ k1.sub (t1.rep.views k1 z2) z3 fun v G2 H2 B2 x rr => ?_
        refine c v G2 H2 fp1 B2 ?_ (k1.ext x) (k1.extTmp x rr)
        exact (s1.less fun _ h => .inl h).trans (k1.extStp x)
def l2 (r : R2) : List V → Hp → VK → Prop := fun vs H Q => ∃ x y, vs = [x, y] ∧ r x y H Q
def l1 (r : V → Hp → VK → Prop) : List V → Hp → VK → Prop := fun vs H Q => ∃ x, vs = [x] ∧ r x H Q
@[simp] def mBin (f : List O → Option O) (ma mb : ME) : ME := mCall f (mCons ma (mCons mb mNil))
@[simp] def mUn (f : List O → Option O) (ma : ME) : ME := mCall f (mCons ma mNil)
theorem of_nil {K : PySem.W.Frag} {σ : L2.St} {H : Hp} {Q : List V → Hp → Prop} (h : tNs K mNil σ H Q) : Q [] H := by
  obtain ⟨P, G, env, fp, p, env', k, hm, c⟩ := h
  cases hm
  exact c [] G H fp [] (Stp.refl' fun a q => q.elim id fun z => nomatch z) k .nil
theorem tN_mono {K : PySem.W.Frag} {m : ME} {σ : L2.St} {H : Hp} {Q Q' : VK} (h : tN K m σ H Q) (i : ∀ v H', Q v H' → Q' v H') : tN K m σ H Q' := by
  obtain ⟨P, G, env, fp, p, env', k, hm, c⟩ := h
  exact ⟨P, G, env, fp, p, env', k, hm, fun v G' H' fp' B s k t => i _ _ (c v G' H' fp' B s k t)⟩
theorem tNs_mono {K : PySem.W.Frag} {m : MA} {σ : L2.St} {H : Hp} {Q Q' : List V → Hp → Prop} (h : tNs K m σ H Q) (i : ∀ v H', Q v H' → Q' v H') : tNs K m σ H Q' := by
  obtain ⟨P, G, env, fp, p, env', k, hm, c⟩ := h
  exact ⟨P, G, env, fp, p, env', k, hm, fun v G' H' fp' B s k t => i _ _ (c v G' H' fp' B s k t)⟩
theorem seq_two {K : PySem.W.Frag} {ma mb : ME} {f : List O → Option O} {r : R2} (hf : PureC K f (l2 r)) {σ : L2.St} {H : Hp} {Q : VK} (q : tN K (mBin f ma mb) σ H Q) : tOp r (tN K ma) (tN K mb) σ H Q := by
  have h1 := seq_cons (seq_op hf q)
  refine tN_mono h1 fun x H1 h2 => ?_
  refine tN_mono (seq_cons h2) fun y H2 h3 => ?_
  obtain ⟨_, _, e, h⟩ := of_nil h3
  cases e
  exact h
theorem ve_bin {ma mb : ME} {f : List O → Option O} {r : R2} {op : Operator} (ho : OpR X (binaryOp op) r) (hf : PureC X.K f (l2 r)) (ha : VE X a ma) (hb : VE X b mb) : VE X (.BinOp a op b pos) (mBin f ma mb) :=
  PE.imp (pe_op ho ha hb) fun _ _ _ q => seq_two hf q
theorem ve_cmp {ma mb : ME} {f : List O → Option O} {r : R2} {op : CmpOp} (ho : OpR X (compareOp op) r) (hf : PureC X.K f (l2 r)) (ha : VE X a ma) (hb : VE X b mb) (hm : behindInMarks op b = false) : VE X (.Compare a [op] [b] pos) (mBin f ma mb) :=
  PE.imp (pe_cmpR ho ha hb hm) fun _ _ _ q => seq_two hf q
theorem seq_one {K : PySem.W.Frag} {ma : ME} {f : List O → Option O} {r : V → Hp → VK → Prop} (hf : PureC K f (l1 r)) {σ : L2.St} {H : Hp} {Q : VK} (q : tN K (mUn f ma) σ H Q) : tUn r (tN K ma) σ H Q := by
  refine tN_mono (seq_cons (seq_op hf q)) fun x H1 h2 => ?_
  obtain ⟨_, e, h⟩ := of_nil h2
  cases e
  exact h
theorem ve_un {ma : ME} {f : List O → Option O} {r : V → Hp → VK → Prop} {op : UnaryOp} (ho : UnR X (unaryOp op) r) (hf : PureC X.K f (l1 r)) (ha : VE X a ma) : VE X (.UnaryOp op a pos) (mUn f ma) :=
  PE.imp (pe_un ho ha) fun _ _ _ q => seq_one hf q
/-- a built-in function by its name -/
theorem ve_callB {ms : MA} {f : List O → Option O} {r : List V → Hp → VK → Prop} {id : String} {x : Str} {p : Pos} (hc : CallR X (.builtin id) r) (hf : PureC X.K f r) (hg : Gl X x) (hm : X.mg x = none) (hv : bootBuiltins x = some (.builtin id)) (ha : VA X (e :: es) ms)
    (hn : x ≠ "__name__" := by decide) (hdb : (x == ("__debug__" : Str)) = false := by decide) (he : starEach (e :: es) X.env = (false, eval e X.env) :: starEach es X.env := by rfl) (hpl : (backTo pos (starEach es X.env)).any (·.1) = false := by rfl) : VE X (.Call (.Name x p) (e :: es) [] pos) (mCall f ms) :=
  PE.imp (pe_callB hc hg hm hv ha hn hdb he hpl) fun _ _ _ q => seq_op hf q
theorem ve_callTy {ms : MA} {f : List O → Option O} {r : List V → Hp → VK → Prop} {T : String} {x : Str} {p : Pos} (hc : CallR X (.type T) r) (hf : PureC X.K f r) (hg : Gl X x) (hm : X.mg x = none) (hv : bootBuiltins x = some (.type T)) (ha : VA X (e :: es) ms)
    (hn : x ≠ "__name__" := by decide) (hdb : (x == ("__debug__" : Str)) = false := by decide) (he : starEach (e :: es) X.env = (false, eval e X.env) :: starEach es X.env := by rfl) (hpl : (backTo pos (starEach es X.env)).any (·.1) = false := by rfl) : VE X (.Call (.Name x p) (e :: es) [] pos) (mCall f ms) :=
  PE.imp (pe_callTy hc hg hm hv ha hn hdb he hpl) fun _ _ _ q => seq_op hf q
theorem ve_ix {ma mb : ME} {f : List O → Option O} {r : R2} (ho : IxR X r) (hf : PureC X.K f (l2 r)) (ha : VE X a ma) (hb : VE X b mb) (hs : PlainIx b) : VE X (.Subscript a b pos) (mBin f ma mb) :=
  PE.imp (pe_ix ho ha hb hs) fun _ _ _ q => seq_two hf q
end
end Pv

namespace Pv
open PySem PySem.Spec PyProof.Rows L2

/-! ### out of a slot -/
@[simp] def takeV : Opd → Env → Option (O × Env)
  | .tmp o, env => some (o, env)
  | .slot i, env => match env[i]? with
    | some (.wr o) => o.toD.bind fun d => some (.val d, env.set i (.wr (.val d)))
    | some (.rd (.val d)) => some (.val d, env)
    | _ => none
/-- moved: the slot is left empty -/
@[simp] def takeM : Opd → Env → Option (O × Env)
  | .tmp o, env => some (o, env)
  | .slot i, env => match env[i]? with
    | some (.wr o) => some (o, env.set i .emp)
    | some (.rd (.val d)) => some (.val d, env)
    | _ => none
/-- frozen -/
@[simp] def takeF (p : Opd) (env : Env) : Option (O × Env) := (takeV p env).bind fun r => r.1.toD.bind fun d => some (.val d, r.2)

theorem set_ne {env : Env} {i j : Nat} {x : Sl} (h : j ≠ i) : (env.set i x)[j]? = env[j]? := by rw [List.getElem?_set_ne (Ne.symm h)]
theorem set_eq {env : Env} {i : Nat} {x y : Sl} (h : env[i]? = some y) : (env.set i x)[i]? = some x := by
  have hl : i < env.length := (List.getElem?_eq_some_iff.mp h).1
  rw [List.getElem?_set_self hl]
theorem setF_eq {fp : Fp} {i : Nat} {B : List Addr} : setF fp i B i = B := by unfold setF; rw [if_pos rfl]
theorem setF_ne {fp : Fp} {i j : Nat} {B : List Addr} (h : j ≠ i) : setF fp i B j = fp j := by unfold setF; rw [if_neg h]
theorem frzn_off {G H : Hp} {A : List Addr} {a : Addr} (h : a ∉ A) : frzn G H A a = G a := by unfold frzn; rw [if_neg h]
theorem frzn_cases {G H : Hp} {A : List Addr} {a : Addr} {o : HO} (h : frzn G H A a = some o) : G a = some o ∨ a ∈ A := by
  unfold frzn at h
  by_cases q : a ∈ A
  · exact .inr q
  · rw [if_neg q] at h; exact .inl h

section
variable {K : PySem.W.Frag} {P : Pt} {G H G' H' : Hp} {σ : L2.St} {env env' : Env} {fp : Fp} {B : List Addr} {i : Nat} {v : V} {o : O}
/-- unowned, unprotected addresses are frozen -/
theorem Ok.freeze (k : Ok K P G H σ env fp) (A : List Addr) (h : ∀ a ∈ A, ¬ Own env fp a ∧ G a = none ∧ ¬ Pr P a) : Ok K P (frzn G H A) H σ env fp where
  len := k.len
  wr := fun i o e => let ⟨v, h1, h2⟩ := k.wr i o e; ⟨v, h1, ro_mono (frzn_ge fun a ha => (h a ha).2.1) _ _ _ (fun _ _ => rfl) h2⟩
  rd := fun i o e => let ⟨v, h1, h2⟩ := k.rd i o e; ⟨v, h1, ro_mono (frzn_ge fun a ha => (h a ha).2.1) _ _ _ (fun _ _ => rfl) h2⟩
  sub := frzn_sub k.sub
  nd := k.nd
  off := fun i o a e ha => by rw [frzn_off fun q => (h a q).1 ⟨i, o, e, ha⟩]; exact k.off i o a e ha
  apart := k.apart
  prot := k.prot
  free := k.free
  there := k.there
/-- a slot is emptied -/
theorem Ok.drop (k : Ok K P G H σ env fp) (i : Nat) : Ok K P G H σ (env.set i .emp) fp := by
  have key : ∀ {j : Nat} {x : Sl}, (env.set i .emp)[j]? = some x → x ≠ .emp → env[j]? = some x := fun {j x} e n => by
    by_cases h : j = i
    · subst h
      cases q : env[j]? with
      | none => rw [List.getElem?_set] at e; simp at e; exact absurd e.2.symm n
      | some y => rw [set_eq q] at e; cases e; exact absurd rfl n
    · rw [set_ne h] at e; exact e
  exact ⟨by rw [List.length_set]; exact k.len, fun j o e => k.wr j o (key e (by simp)), fun j o e => k.rd j o (key e (by simp)), k.sub, fun j o e => k.nd j o (key e (by simp)), fun j o a e => k.off j o a (key e (by simp)),
    fun j l o q a hn e e' => k.apart j l o q a hn (key e (by simp)) (key e' (by simp)), fun j o a e => k.prot j o a (key e (by simp)), fun j o a e => k.free j o a (key e (by simp)), k.there⟩
theorem Ok.newOff (k : Ok K P G H σ env fp) {p : Addr} (np : H p = none) : ¬ Own env fp p ∧ G p = none ∧ ¬ Pr P p := by
  refine ⟨fun q => ?_, k.sub.none np, fun q => ?_⟩
  · obtain ⟨u, e⟩ := k.has q
    rw [np] at e; cases e
  · obtain ⟨u, e⟩ := k.there p q
    rw [np] at e; cases e
theorem own_drop {a : Addr} (h : Own (env.set i .emp) fp a) : Own env fp a := by
  obtain ⟨j, o, e, ha⟩ := h
  by_cases hj : j = i
  · subst hj
    rw [List.getElem?_set] at e
    simp at e
  · rw [set_ne hj] at e
    exact ⟨j, o, e, ha⟩
/-- a slot is filled -/
theorem Ok.put (k : Ok K P G H σ env fp) (hi : i < env.length) (r : Ro K G H v o B) (nd : B.Nodup) (h : ∀ a ∈ B, G a = none ∧ ¬ Pr P a ∧ ∀ j q, j ≠ i → env[j]? = some (.wr q) → a ∉ fp j) :
    Ok K P G H (σ.set i (some v)) (env.set i (.wr o)) (setF fp i B) where
  len := by rw [List.length_set, List.length_set]; exact k.len
  wr := fun j q e => by
    by_cases hj : j = i
    · subst hj
      rw [List.getElem?_set_self hi] at e; cases e
      exact ⟨v, by rw [List.getElem?_set_self (by rw [k.len]; exact hi)], by rw [setF_eq]; exact r⟩
    · rw [set_ne hj] at e
      rw [setF_ne hj, List.getElem?_set_ne (Ne.symm hj)]
      exact k.wr j q e
  rd := fun j q e => by
    by_cases hj : j = i
    · subst hj
      rw [List.getElem?_set_self hi] at e; cases e
    · rw [set_ne hj] at e
      rw [setF_ne hj, List.getElem?_set_ne (Ne.symm hj)]
      exact k.rd j q e
  sub := k.sub
  nd := fun j q e => by
    by_cases hj : j = i
    · subst hj; rw [setF_eq]; exact nd
    · rw [set_ne hj] at e; rw [setF_ne hj]; exact k.nd j q e
  off := fun j q a e ha => by
    by_cases hj : j = i
    · subst hj; rw [setF_eq] at ha; exact (h a ha).1
    · rw [set_ne hj] at e; rw [setF_ne hj] at ha; exact k.off j q a e ha
  apart := fun j l q q' a hn e e' ha ha' => by
    by_cases hj : j = i
    · subst hj
      have hl : l ≠ j := Ne.symm hn
      rw [set_ne hl] at e'
      rw [setF_eq] at ha; rw [setF_ne hl] at ha'
      exact (h a ha).2.2 l q' hl e' ha'
    · rw [set_ne hj] at e
      rw [setF_ne hj] at ha
      by_cases hl : l = i
      · subst hl
        rw [setF_eq] at ha'
        exact (h a ha').2.2 j q hj e ha
      · rw [set_ne hl] at e'; rw [setF_ne hl] at ha'
        exact k.apart j l q q' a hn e e' ha ha'
  prot := fun j q a e ha => by
    by_cases hj : j = i
    · subst hj
      rw [List.getElem?_set_self hi] at e; cases e
    · rw [set_ne hj] at e; rw [setF_ne hj] at ha; exact k.prot j q a e ha
  free := fun j q a e ha => by
    by_cases hj : j = i
    · subst hj; rw [setF_eq] at ha; exact (h a ha).2.1
    · rw [set_ne hj] at e; rw [setF_ne hj] at ha; exact k.free j q a e ha
  there := k.there
theorem own_put {q : O} {a : Addr} (h : Own (env.set i (.wr q)) (setF fp i B) a) : Own env fp a ∨ a ∈ B := by
  obtain ⟨j, o, e, ha⟩ := h
  by_cases hj : j = i
  · subst hj; rw [setF_eq] at ha; exact .inr ha
  · rw [set_ne hj] at e; rw [setF_ne hj] at ha; exact .inl ⟨j, o, e, ha⟩
theorem set_same {v : V} (h : σ[i]? = some (some v)) : σ.set i (some v) = σ := by
  apply List.ext_getElem?
  intro j
  by_cases hj : i = j
  · subst hj
    rw [List.getElem?_set_self (List.getElem?_eq_some_iff.mp h).1, h]
  · rw [List.getElem?_set_ne hj]
/-- a slot's own data frozen -/
theorem Ok.freezeSlot {d : D} (k : Ok K P G H σ env fp) (e : env[i]? = some (.wr o)) (hd : o.toD = some d) : Ok K P (frzn G H (fp i)) H σ (env.set i (.wr (.val d))) (setF fp i []) := by
  obtain ⟨v, hv, r⟩ := k.wr i o e
  have hi : i < env.length := (List.getElem?_eq_some_iff.mp e).1
  have k1 := (k.drop i).freeze (fp i) fun a ha => ⟨fun ⟨j, q, e', ha'⟩ => by
    by_cases hj : j = i
    · subst hj
      rw [List.getElem?_set_self hi] at e'; cases e'
    · rw [set_ne hj] at e'
      exact k.apart j i q o a hj e' e ha' ha, k.off i o a e ha, k.free i o a e ha⟩
  have k2 := k1.put (i := i) (v := v) (o := .val d) (B := []) (by rw [List.length_set]; exact hi) (.val (ro_toD (frzn_ge fun a ha => k.off i o a e ha) o v (fp i) d (fun a ha => frzn_at a ha) r hd)) List.nodup_nil fun _ h => nomatch h
  rw [set_same hv, List.set_set] at k2
  exact k2
theorem own_val {d : D} {a : Addr} (h : Own (env.set i (.wr (.val d))) (setF fp i []) a) : Own env fp a := (own_put h).elim id fun q => nomatch q
end

theorem ro_val_inv {K : PySem.W.Frag} {G H : Hp} {v : V} {d : D} {A : List Addr} (h : Ro K G H v (.val d) A) : Dq K G v d ∧ A = [] := by
  cases h with
  | val h => exact ⟨h, rfl⟩
/-- what a take leaves -/
structure Tk (K : PySem.W.Frag) (P : Pt) (G H : Hp) (σ : L2.St) (env : Env) (fp : Fp) (vs : List V) (ps : List Opd) (B : List Addr) (v : V) (o : O) (env' : Env) (G' : Hp) (fp' : Fp) (B1 C : List Addr) : Prop where
  ge : Sub G G'
  frz : ∀ a u, G' a = some u → G a = some u ∨ Own env fp a ∨ a ∈ B
  ok : Ok K P G' H σ env' fp'
  ro : Ro K G' H v o B1
  nd : B1.Nodup
  off : ∀ a ∈ B1, ¬ Own env' fp' a ∧ G' a = none ∧ ¬ Pr P a ∧ a ∉ C
  rest : Tps K P G' H σ (Own env' fp') vs ps C
  sub : ∀ a, a ∈ B1 ∨ a ∈ C → a ∈ B ∨ Own env fp a
  own : ∀ a, Own env' fp' a → Own env fp a
def TakeOk (tk : Opd → Env → Option (O × Env)) : Prop :=
  ∀ {K : PySem.W.Frag} {P : Pt} {G H : Hp} {σ : L2.St} {env : Env} {fp : Fp} {v : V} {vs : List V} {p : Opd} {ps : List Opd} {B : List Addr} {o : O} {env' : Env},
    Ok K P G H σ env fp → Tps K P G H σ (Own env fp) (v :: vs) (p :: ps) B → tk p env = some (o, env') → ∃ G' fp' B1 C, Tk K P G H σ env fp vs ps B v o env' G' fp' B1 C
theorem Tps.uncons {K : PySem.W.Frag} {P : Pt} {G H : Hp} {σ : L2.St} {A : AS} {v : V} {vs : List V} {o : O} {ps : List Opd} {B : List Addr} (t : Tps K P G H σ A (v :: vs) (.tmp o :: ps) B) :
    ∃ B1 C, B = B1 ++ C ∧ Ro K G H v o B1 ∧ Tps K P G H σ A vs ps C := by
  have r := t.rep
  cases r with
  | @tmp _ _ B1 _ _ C h1 h2 => exact ⟨B1, C, rfl, h1, h2, (List.nodup_append.mp t.nd).2.1, fun a ha => t.off a (List.mem_append_right _ ha)⟩
theorem Tps.uncons' {K : PySem.W.Frag} {P : Pt} {G H : Hp} {σ : L2.St} {A : AS} {v : V} {vs : List V} {i : Nat} {ps : List Opd} {B : List Addr} (t : Tps K P G H σ A (v :: vs) (.slot i :: ps) B) :
    σ[i]? = some (some v) ∧ Tps K P G H σ A vs ps B := by
  have r := t.rep
  cases r with
  | slot h1 h2 => exact ⟨h1, h2, t.nd, t.off⟩
theorem Tk.of_tmp {K : PySem.W.Frag} {P : Pt} {G H : Hp} {σ : L2.St} {env : Env} {fp : Fp} {v : V} {vs : List V} {o : O} {ps : List Opd} {B : List Addr} (k : Ok K P G H σ env fp) (t : Tps K P G H σ (Own env fp) (v :: vs) (.tmp o :: ps) B) :
    ∃ B1 C, Tk K P G H σ env fp vs ps B v o env G fp B1 C := by
  obtain ⟨B1, C, rfl, r, t2⟩ := t.uncons
  have q := List.nodup_append.mp t.nd
  refine ⟨B1, C, Sub.refl _, fun _ _ h => .inl h, k, r, q.1, fun a ha => ?_, t2, fun a h => .inl (List.mem_append.mpr h), fun _ h => h⟩
  obtain ⟨x, y, z⟩ := t.off a (List.mem_append_left _ ha)
  exact ⟨x, y, z, fun hc => q.2.2 a ha a hc rfl⟩
theorem Tps.move {K : PySem.W.Frag} {P : Pt} {G G' H : Hp} {σ : L2.St} {A A' : AS} {vs : List V} {ps : List Opd} {B : List Addr} (t : Tps K P G H σ A vs ps B) (ge : Sub G G') (h : ∀ a, A' a → A a) (h2 : ∀ a u, G' a = some u → G a = some u ∨ A a) : Tps K P G' H σ A' vs ps B := by
  refine ⟨t.rep.mono ge fun _ _ => rfl, t.nd, fun a ha => ⟨fun q => (t.off a ha).1 (h a q), ?_, (t.off a ha).2.2⟩⟩
  cases e : G' a with
  | none => rfl
  | some u =>
    rcases h2 a u e with z | z
    · rw [(t.off a ha).2.1] at z; cases z
    · exact absurd z (t.off a ha).1
theorem takeV_ok : TakeOk takeV := by
  intro K P G H σ env fp v vs p ps B o env' k t h
  cases p with
  | tmp q =>
    cases h
    obtain ⟨B1, C, x⟩ := Tk.of_tmp k t
    exact ⟨G, fp, B1, C, x⟩
  | slot i =>
    obtain ⟨hv, t2⟩ := t.uncons'
    unfold takeV at h
    simp only at h
    split at h
    · rename_i q e
      simp only [Option.bind_eq_some_iff] at h
      obtain ⟨d, hd, h⟩ := h
      cases h
      obtain ⟨v', hv', r⟩ := k.wr i _ e
      rw [hv] at hv'; cases hv'
      have hf : ∀ a u, frzn G H (fp i) a = some u → G a = some u ∨ Own env fp a := fun a u z => (frzn_cases z).imp id fun y => ⟨i, _, e, y⟩
      refine ⟨frzn G H (fp i), setF fp i [], [], B, frzn_ge fun a ha => k.off i _ a e ha, fun a u z => (hf a u z).imp id .inl, k.freezeSlot e hd, .val (ro_toD (frzn_ge fun a ha => k.off i _ a e ha) q v (fp i) d (fun a ha => frzn_at a ha) r hd), List.nodup_nil, (fun _ z => nomatch z), t2.move (frzn_ge fun a ha => k.off i _ a e ha) (fun a z => own_val z) hf, fun a z => z.elim (fun y => nomatch y) .inl, fun a z => own_val z⟩
    · rename_i d e
      cases h
      obtain ⟨v', hv', r⟩ := k.rd i _ e
      rw [hv] at hv'; cases hv'
      obtain ⟨r, _⟩ := ro_val_inv r
      · exact ⟨G, fp, [], B, Sub.refl _, fun _ _ z => .inl z, k, .val r, List.nodup_nil, (fun _ z => nomatch z), t2, fun a z => z.elim (fun y => nomatch y) .inl, fun _ z => z⟩
    · cases h
theorem takeM_ok : TakeOk takeM := by
  intro K P G H σ env fp v vs p ps B o env' k t h
  cases p with
  | tmp q =>
    cases h
    obtain ⟨B1, C, x⟩ := Tk.of_tmp k t
    exact ⟨G, fp, B1, C, x⟩
  | slot i =>
    obtain ⟨hv, t2⟩ := t.uncons'
    unfold takeM at h
    simp only at h
    split at h
    · rename_i q e
      cases h
      obtain ⟨v', hv', r⟩ := k.wr i _ e
      rw [hv] at hv'; cases hv'
      refine ⟨G, fp, fp i, B, Sub.refl _, fun _ _ z => .inl z, k.drop i, r, k.nd i _ e, fun a ha => ⟨fun ⟨j, q', e', ha'⟩ => ?_, k.off i _ a e ha, k.free i _ a e ha, fun hb => (t2.off a hb).1 ⟨i, _, e, ha⟩⟩, t2.weak fun a z => own_drop z, fun a z => z.elim (fun y => .inr ⟨i, _, e, y⟩) .inl, fun a z => own_drop z⟩
      by_cases hj : j = i
      · subst hj
        rw [set_eq e] at e'; cases e'
      · rw [set_ne hj] at e'
        exact k.apart j i _ _ a hj e' e ha' ha
    · rename_i d e
      cases h
      obtain ⟨v', hv', r⟩ := k.rd i _ e
      rw [hv] at hv'; cases hv'
      obtain ⟨r, _⟩ := ro_val_inv r
      · exact ⟨G, fp, [], B, Sub.refl _, fun _ _ z => .inl z, k, .val r, List.nodup_nil, (fun _ z => nomatch z), t2, fun a z => z.elim (fun y => nomatch y) .inl, fun _ z => z⟩
    · cases h
theorem takeF_ok : TakeOk takeF := by
  intro K P G H σ env fp v vs p ps B o env' k t h
  simp only [takeF, Option.bind_eq_some_iff] at h
  obtain ⟨⟨q, e1⟩, h1, d, hd, h2⟩ := h
  cases h2
  obtain ⟨G1, fp1, B1, C, x⟩ := takeV_ok k t h1
  have off : ∀ a ∈ B1, ¬ Own e1 fp1 a ∧ G1 a = none ∧ ¬ Pr P a := fun a ha => ⟨(x.off a ha).1, (x.off a ha).2.1, (x.off a ha).2.2.1⟩
  have ge : Sub G1 (frzn G1 H B1) := frzn_ge fun a ha => (x.off a ha).2.1
  refine ⟨frzn G1 H B1, fp1, [], C, x.ge.trans ge, fun a u z => ?_, x.ok.freeze B1 off, .val (ro_toD ge q v B1 d (fun a ha => frzn_at a ha) x.ro hd), List.nodup_nil, (fun _ z => nomatch z), ?_, fun a z => z.elim (fun y => nomatch y) fun y => x.sub a (.inr y), x.own⟩
  · rcases frzn_cases z with z | z
    · exact x.frz a u z
    · exact .inr ((x.sub a (.inl z)).symm)
  · refine ⟨x.rest.rep.mono ge fun _ _ => rfl, x.rest.nd, fun a ha => ⟨(x.rest.off a ha).1, ?_, (x.rest.off a ha).2.2⟩⟩
    rw [frzn_off fun hb => (x.off a hb).2.2.2 ha]
    exact (x.rest.off a ha).2.1

/-! ### displays -/
@[simp] def takes (tk : Opd → Env → Option (O × Env)) : List Opd → Env → Option (List O × Env)
  | [], env => some ([], env)
  | p :: ps, env => (tk p env).bind fun r => (takes tk ps r.2).bind fun s => some (r.1 :: s.1, s.2)
theorem takes_ok {tk : Opd → Env → Option (O × Env)} (tok : TakeOk tk) : ∀ {K : PySem.W.Frag} {P : Pt} {H : Hp} {σ : L2.St} {ps : List Opd} {G : Hp} {env : Env} {fp : Fp} {vs : List V} {B : List Addr} {os : List O} {env' : Env},
    Ok K P G H σ env fp → Tps K P G H σ (Own env fp) vs ps B → takes tk ps env = some (os, env') →
    ∃ G' fp' C, Sub G G' ∧ (∀ a u, G' a = some u → G a = some u ∨ Own env fp a ∨ a ∈ B) ∧ Ok K P G' H σ env' fp' ∧ Ros K G' H vs os C ∧ C.Nodup ∧ (∀ a ∈ C, ¬ Own env' fp' a ∧ G' a = none ∧ ¬ Pr P a) ∧ (∀ a ∈ C, a ∈ B ∨ Own env fp a) ∧ ∀ a, Own env' fp' a → Own env fp a
  | K, P, H, σ, [], G, env, fp, vs, B, os, env', k, t, h => by
    cases h
    have r := t.rep
    cases r
    exact ⟨G, fp, [], Sub.refl _, fun _ _ z => .inl z, k, .nil, List.nodup_nil, fun _ z => (nomatch z), fun _ z => (nomatch z), fun _ z => z⟩
  | K, P, H, σ, p :: ps, G, env, fp, vs, B, os, env', k, t, h => by
    simp only [takes, Option.bind_eq_some_iff] at h
    obtain ⟨⟨o, e1⟩, h1, ⟨os', e2⟩, h2, h3⟩ := h
    cases h3
    cases vs with
    | nil => have r := t.rep; cases r
    | cons v vs =>
      obtain ⟨G1, fp1, B1, C1, x⟩ := tok k t h1
      obtain ⟨G2, fp2, C, ge, frz, k2, rs, nd, off, sub, own⟩ := takes_ok tok x.ok x.rest h2
      have notB : ∀ a ∈ B1, ¬ (Own e1 fp1 a ∨ a ∈ C1) := fun a ha q => q.elim (x.off a ha).1 (x.off a ha).2.2.2
      have g2 : ∀ a ∈ B1, G2 a = none := fun a ha => by
        cases e : G2 a with
        | none => rfl
        | some u =>
          rcases frz a u e with z | z
          · rw [(x.off a ha).2.1] at z; cases z
          · exact absurd z (notB a ha)
      refine ⟨G2, fp2, B1 ++ C, x.ge.trans ge, fun a u z => ?_, k2, .cons (ro_mono ge _ _ _ (fun _ _ => rfl) x.ro) rs, ?_, fun a ha => ?_, fun a ha => ?_, fun a z => x.own a (own a z)⟩
      · rcases frz a u z with z | z | z
        · exact x.frz a u z
        · exact .inr (.inl (x.own a z))
        · exact .inr ((x.sub a (.inr z)).symm)
      · rw [List.nodup_append]
        refine ⟨x.nd, nd, fun a ha b hb e => ?_⟩
        subst e
        exact notB a ha ((sub a hb).symm)
      · rcases List.mem_append.mp ha with ha | ha
        · exact ⟨fun q => notB a ha (.inl (own a q)), g2 a ha, (x.off a ha).2.2.1⟩
        · exact off a ha
      · rcases List.mem_append.mp ha with ha | ha
        · exact x.sub a (.inl ha)
        · rcases sub a ha with z | z
          · exact x.sub a (.inr z)
          · exact .inr (x.own a z)
@[simp] def vals : List O → Option (List D)
  | [] => some []
  | .val d :: os => (vals os).bind fun ds => some (d :: ds)
  | _ => none
@[simp] theorem vals_map : ∀ ds : List D, vals (ds.map O.val) = some ds
  | [] => rfl
  | d :: ds => by simp [vals, vals_map ds]
theorem vals_eq : ∀ {os : List O} {ds : List D}, vals os = some ds → os = ds.map O.val
  | [], ds, h => by cases h; rfl
  | .val d :: os, ds, h => by
    simp only [vals, Option.bind_eq_some_iff] at h
    obtain ⟨ds', h1, h2⟩ := h
    cases h2
    rw [vals_eq h1]; rfl
  | .own _ :: _, _, h => by cases h
  | .odic _ :: _, _, h => by cases h
theorem ros_vals {K : PySem.W.Frag} {G H : Hp} : ∀ {ds : List D} {vs : List V} {A : List Addr}, Ros K G H vs (ds.map O.val) A → DqAll K G vs ds ∧ A = []
  | [], vs, A, h => by cases h; exact ⟨.nil, rfl⟩
  | d :: ds, vs, A, h => by
    cases h with
    | cons h1 h2 =>
      cases h1 with
      | val h1 =>
        obtain ⟨x, y⟩ := ros_vals h2
        exact ⟨.cons h1 x, by rw [y]; rfl⟩
theorem vals_ros {K : PySem.W.Frag} {G H : Hp} : ∀ {ds : List D} {vs : List V}, DqAll K G vs ds → Ros K G H vs (ds.map O.val) []
  | [], vs, h => by cases h; exact .nil
  | d :: ds, vs, h => by cases h with | cons h1 h2 => exact .cons (.val h1) (vals_ros h2)
theorem ros_len {K : PySem.W.Frag} {G H : Hp} : ∀ {os : List O} {vs : List V} {A : List Addr}, Ros K G H vs os A → vs.length = os.length
  | [], vs, A, h => by cases h; rfl
  | o :: os, vs, A, h => by cases h with | cons h1 h2 => simp [ros_len h2]
theorem dps_len {K : PySem.W.Frag} {G : Hp} : ∀ {ds : List D} {vs : List V}, DqAll K G vs ds → vs.length = ds.length
  | [], vs, h => by cases h; rfl
  | d :: ds, vs, h => by cases h with | cons h1 h2 => simp [dps_len h2]

/-- (a, b, ..) -/
@[simp] def mTup (ms : MA) : ME := fun env => (ms env).bind fun r => (takes takeF r.1 r.2).bind fun s => (vals s.1).bind fun ds => if ds.length ≤ sizeLine then some (.tmp (.val (.tuple ds)), s.2) else none
/-- [a, b, ..] -/
@[simp] def mLst (ms : MA) : ME := fun env => (ms env).bind fun r => (takes takeV r.1 r.2).bind fun s => if s.1.length ≤ sizeLine then some (.tmp (.own s.1), s.2) else none
section
variable {X : Cx} {e a b : Expr} {es : List Expr} {pos : Pos}
theorem ve_tup {x1} {ms : MA} (h : VA X es ms) : VE X (.Tuple es x1 pos) (mTup ms) := by
  refine PE.imp (pe_tup h) fun σ H Q q => ?_
  obtain ⟨P, G, env, fp, p, env', k, hm, c⟩ := q
  simp only [mTup, Option.bind_eq_some_iff] at hm
  obtain ⟨⟨ps, e1⟩, z, ⟨os, e2⟩, z2, ds, z3, hm⟩ := hm
  split at hm
  case isFalse => cases hm
  case isTrue hz =>
  cases hm
  refine ⟨P, G, env, fp, ps, e1, k, z, fun vs G1 H1 fp1 B s k1 t => ?_⟩
  obtain ⟨G2, fp2, C, ge, frz, k2, rs, nd, off, sub, own⟩ := takes_ok takeF_ok k1 t z2
  obtain rfl := vals_eq z3
  obtain ⟨dp, rfl⟩ := ros_vals rs
  refine ⟨by rw [dps_len dp]; exact hz, fun p np => ?_⟩
  have x : Ext G2 H1 (upd G2 p (.tup vs)) (upd H1 p (.tup vs)) [] := Ext.newF k2.sub np
  refine c (.ref p) _ _ fp2 [] ?_ (k2.ext x) (k2.extTmp x (.val (.tup (SqT.of upd_same) (dps_mono x.ge _ _ dp))))
  have s1 : Stp G1 H1 (fun a => Own e1 fp1 a ∨ a ∈ B) G2 H1 (Own e2 fp2) := ⟨ge, fun _ _ h _ => h, fun a h => .inl (.inl (own a h)), fun a o h => (frz a o h).imp id .inl⟩
  exact (s.trans s1).trans (k2.extStp x)
theorem ve_lst {ms : MA} (h : VA X es ms) : VE X (.List es pos) (mLst ms) := by
  refine PE.imp (pe_lst h) fun σ H Q q => ?_
  obtain ⟨P, G, env, fp, p, env', k, hm, c⟩ := q
  simp only [mLst, Option.bind_eq_some_iff] at hm
  obtain ⟨⟨ps, e1⟩, z, ⟨os, e2⟩, z2, hm⟩ := hm
  split at hm
  case isFalse => cases hm
  case isTrue hz =>
  cases hm
  refine ⟨P, G, env, fp, ps, e1, k, z, fun vs G1 H1 fp1 B s k1 t => ?_⟩
  obtain ⟨G2, fp2, C, ge, frz, k2, rs, nd, off, sub, own⟩ := takes_ok takeV_ok k1 t z2
  refine ⟨by rw [ros_len rs]; exact hz, fun p np => ?_⟩
  have x : Ext G2 H1 G2 (upd H1 p (.lst vs)) [p] := Ext.new k2.sub np
  have pC : p ∉ C := fun h => by obtain ⟨u, q⟩ := ros_some _ _ _ rs p h; rw [np] at q; cases q
  refine c (.ref p) _ _ fp2 (p :: C) ?_ (k2.ext x) ?_
  · have s1 : Stp G1 H1 (fun a => Own e1 fp1 a ∨ a ∈ B) G2 H1 (fun a => Own e2 fp2 a ∨ a ∈ C) := ⟨ge, fun _ _ h _ => h, fun a h => h.elim (fun h => .inl (.inl (own a h))) fun h => .inl ((sub a h).symm), fun a o h => (frz a o h).imp id .inl⟩
    refine (s.trans s1).trans ⟨Sub.refl _, fun a o h _ => x.keep a o h, fun a h => ?_, fun _ _ h => .inl h⟩
    rcases h with h | h
    · exact .inl (.inl h)
    · rcases List.mem_cons.mp h with h | h
      · subst h; exact .inr np
      · exact .inl (.inr h)
  · have r : Ro X.K G2 (upd H1 p (.lst vs)) (.ref p) (.own os) (p :: C) := .own upd_same (ros_mono (Sub.refl _) _ _ _ (fun a ha => upd_ne fun h => pC (by rw [← h]; exact ha)) rs)
    refine ⟨by have q := Reps.tmp (σ := σ) r .nil; rw [List.append_nil] at q; exact q, List.nodup_cons.mpr ⟨pC, nd⟩, fun a ha => ?_⟩
    rcases List.mem_cons.mp ha with h | h
    · subst h
      exact k2.newOff np
    · exact off a h
end
end Pv

namespace Pv
open PySem PySem.Spec PyProof.Rows L2

/-! ### tests -/
@[simp] def truthO : O → Option Bool
  | .val .none => some false
  | .val (.bool b) => some b
  | .val (.int i) => some (i != 0)
  | .val (.str s) => if s.length ≤ sizeLine then some ((s.length : Int) != 0) else none
  | .val (.list ds) => some (!ds.isEmpty)
  | .val (.tuple ds) => some (!ds.isEmpty)
  | .val (.dict _) => none
  | .own os => some (!os.isEmpty)
  | .odic os => some (!os.isEmpty)
@[simp] def mTru (m : ME) : MT := fun env => (m env).bind fun r => (look r.1 r.2).bind fun o => (truthO o).bind fun b => some (b, r.2)
/-- a bool that was made -/
@[simp] def mTst (m : ME) : MT := fun env => (m env).bind fun r => match r.1 with
  | .tmp (.val (.bool b)) => some (b, r.2)
  | _ => none
@[simp] def mNotT (m : MT) : MT := fun env => (m env).bind fun r => some (!r.1, r.2)
@[simp] def mAndT (ma mb : MT) : MT := fun env => (ma env).bind fun r => if r.1 = true then mb r.2 else some (false, r.2)
@[simp] def mOrT (ma mb : MT) : MT := fun env => (ma env).bind fun r => if r.1 = true then some (true, r.2) else mb r.2
@[simp] def mIfE (mt : MT) (ma mb : ME) : ME := fun env => (mt env).bind fun r => if r.1 = true then ma r.2 else mb r.2
def mBoolE (m : MT) : ME := fun env => (m env).bind fun r => some (.tmp (.val (.bool r.1)), r.2)
/-- a and b as a value, a any value -/
@[simp] def mAndE (ma mb : ME) : ME := fun env => (ma env).bind fun r => (look r.1 r.2).bind fun o => (truthO o).bind fun b => if b = true then mb r.2 else some r
@[simp] def mOrE (ma mb : ME) : ME := fun env => (ma env).bind fun r => (look r.1 r.2).bind fun o => (truthO o).bind fun b => if b = true then some r else mb r.2
@[simp] def mNotE (m : ME) : ME := fun env => (m env).bind fun r => (look r.1 r.2).bind fun o => (truthO o).bind fun b => some (.tmp (.val (.bool (!b))), r.2)

theorem rok_len {K : PySem.W.Frag} {G H : Hp} : ∀ {os : List (Key × O)} {vs : List (Key × V)} {A : List Addr}, Rok K G H vs os A → vs.length = os.length
  | [], vs, A, h => by cases h; rfl
  | o :: os, vs, A, h => by cases h with | cons h1 h2 => simp [rok_len h2]
theorem isEmpty_len {α β : Type} {xs : List α} {ys : List β} (h : xs.length = ys.length) : xs.isEmpty = ys.isEmpty := by
  cases xs <;> cases ys <;> simp_all
theorem tru_of {K : PySem.W.Frag} {G H : Hp} (s : Sub G H) {v : V} {o : O} {b : Bool} (w : View K G H v o) (h : truthO o = some b) : TruV K v H b := by
  obtain ⟨B, r⟩ := w
  cases r with
  | val r =>
    cases r with
    | non => cases h; exact rfl
    | bl c => cases h; exact rfl
    | int i => cases h; exact rfl
    | str x =>
      simp only [truthO] at h
      split at h
      · cases h; exact ⟨by assumption, rfl⟩
      · cases h
    | lst h1 h2 => cases h; exact .inl ⟨_, (sqk_mono s h1).l, by rw [isEmpty_len (dps_len h2)]⟩
    | tup h1 h2 => cases h; exact .inr (.inl ⟨_, sqt_mono s h1, by rw [isEmpty_len (dps_len h2)]⟩)
  | own h1 h2 => cases h; exact .inl ⟨_, SqL.of h1, by rw [isEmpty_len (ros_len h2)]⟩
  | odic h1 h2 => cases h; exact .inr (.inr ⟨_, h1, by rw [isEmpty_len (rok_len h2)]⟩)

section
variable {X : Cx} {e a b c : Expr} {es rest : List Expr} {pos : Pos}
/-- one operand, looked at -/
theorem one_view {K : PySem.W.Frag} {P : Pt} {G H : Hp} {σ : L2.St} {env : Env} {fp : Fp} {A : AS} {v : V} {p : Opd} {B : List Addr} {o : O} (k : Ok K P G H σ env fp) (t : Tps K P G H σ A [v] [p] B) (h : look p env = some o) : View K G H v o := by
  have q := t.rep.views k (os := [o]) (by simp [looks, h, -look])
  cases q with | cons q _ => exact q
theorem tru_seq {K : PySem.W.Frag} {m : ME} {σ : L2.St} {H : Hp} {Q : Bool → Hp → Prop} (q : tBt K (mTru m) σ H Q) : tN K m σ H fun x H' => ∃ k, TruV K x H' k ∧ Q k H' := by
  obtain ⟨P, G, env, fp, p, env', k, hm, c⟩ := q
  simp only [mTru, Option.bind_eq_some_iff] at hm
  obtain ⟨⟨p, e1⟩, z, o, z2, b, z3, hm⟩ := hm
  cases hm
  refine ⟨P, G, env, fp, p, e1, k, z, fun v G1 H1 fp1 B s k1 t => ⟨_, tru_of k1.sub (one_view k1 t z2) z3, c G1 H1 fp1 (s.less fun _ h => .inl h) k1⟩⟩
theorem vt_truth {m : ME} (h : VE X e m) (he : ∀ whole, isTrue e X.env whole = (do let v ← whole; standAt e.pos; holding [v] (truthy v)) := by intro _; rfl) : VT X e (mTru m) :=
  PT.imp (pt_truth h he) fun _ _ _ q => tru_seq q
theorem tst_seq {K : PySem.W.Frag} {m : ME} {σ : L2.St} {H : Hp} {Q : Bool → Hp → Prop} (q : tBt K (mTst m) σ H Q) : tN K m σ H fun x H' => ∃ k, x = .bl k ∧ Q k H' := by
  obtain ⟨P, G, env, fp, p, env', k, hm, c⟩ := q
  simp only [mTst, Option.bind_eq_some_iff] at hm
  obtain ⟨⟨p, e1⟩, z, hm⟩ := hm
  split at hm
  · rename_i hp
    cases hm
    have hp : p = .tmp (.val (.bool _)) := hp
    subst hp
    refine ⟨P, G, env, fp, _, e1, k, z, fun v G1 H1 fp1 B s k1 t => ?_⟩
    obtain ⟨B1, r⟩ := one_view k1 t rfl
    obtain ⟨r, _⟩ := ro_val_inv r
    cases r
    exact ⟨_, rfl, c G1 H1 fp1 (s.less fun _ h => .inl h) k1⟩
  · cases hm
theorem vt_cmp {ma mb : ME} {f : List O → Option O} {r : R2} {op : CmpOp} (ho : OpR X (compareOp op) r) (hf : PureC X.K f (l2 r)) (ha : VE X a ma) (hb : VE X b mb) (hm : behindInMarks op b = false) : VT X (.Compare a [op] [b] pos) (mTst (mBin f ma mb)) :=
  PT.imp (pt_cmpR ho ha hb hm) fun _ _ _ q => seq_two hf (tst_seq q)
theorem vt_not {m : MT} (h : VT X a m) : VT X (.UnaryOp .Not a pos) (mNotT m) := by
  refine PT.imp (pt_not h) fun σ H Q q => ?_
  obtain ⟨P, G, env, fp, p, env', k, hm, c⟩ := q
  simp only [mNotT, Option.bind_eq_some_iff] at hm
  obtain ⟨⟨p, e1⟩, z, hm⟩ := hm
  cases hm
  exact ⟨P, G, env, fp, p, e1, k, z, c⟩
abbrev VW (X : Cx) (e : Expr) (m : MT) : Prop := PW X e (tBt X.K m)
theorem vw_and1 {m : MT} (h : VT X a m) : VW X (.BoolOp .And [a] pos) m := pw_and1 h
theorem vw_or1 {m : MT} (h : VT X a m) : VW X (.BoolOp .Or [a] pos) m := pw_or1 h
theorem vw_and {ma mb : MT} (ha : VT X a ma) (hb : VW X (.BoolOp .And (b :: rest) pos) mb) : VW X (.BoolOp .And (a :: b :: rest) pos) (mAndT ma mb) := by
  refine PW.imp (pw_and ha hb) fun σ H Q q => ?_
  obtain ⟨P, G, env, fp, p, env', k, hm, c⟩ := q
  simp only [mAndT, Option.bind_eq_some_iff] at hm
  obtain ⟨⟨p1, e1⟩, z, hm⟩ := hm
  refine ⟨P, G, env, fp, p1, e1, k, z, fun G1 H1 fp1 s k1 => ?_⟩
  cases p1 with
  | true => exact ⟨P, G1, e1, fp1, p, env', k1, by simpa using hm, fun G2 H2 fp2 s2 k2 => c G2 H2 fp2 (s.trans s2) k2⟩
  | false => simp at hm; obtain ⟨rfl, rfl⟩ := hm; exact c G1 H1 fp1 s k1
theorem vw_or {ma mb : MT} (ha : VT X a ma) (hb : VW X (.BoolOp .Or (b :: rest) pos) mb) : VW X (.BoolOp .Or (a :: b :: rest) pos) (mOrT ma mb) := by
  refine PW.imp (pw_or ha hb) fun σ H Q q => ?_
  obtain ⟨P, G, env, fp, p, env', k, hm, c⟩ := q
  simp only [mOrT, Option.bind_eq_some_iff] at hm
  obtain ⟨⟨p1, e1⟩, z, hm⟩ := hm
  refine ⟨P, G, env, fp, p1, e1, k, z, fun G1 H1 fp1 s k1 => ?_⟩
  cases p1 with
  | false => exact ⟨P, G1, e1, fp1, p, env', k1, by simpa using hm, fun G2 H2 fp2 s2 k2 => c G2 H2 fp2 (s.trans s2) k2⟩
  | true => simp at hm; obtain ⟨rfl, rfl⟩ := hm; exact c G1 H1 fp1 s k1
theorem vt_w {m : MT} (h : VW X a m) : VT X a m := PW.pt h
theorem ve_ifE {mt : MT} {ma mb : ME} (hc : VT X c mt) (ha : VE X a ma) (hb : VE X b mb) : VE X (.IfExp c a b pos) (mIfE mt ma mb) := by
  refine PE.imp (pe_ifExp hc ha hb) fun σ H Q q => ?_
  obtain ⟨P, G, env, fp, p, env', k, hm, c⟩ := q
  simp only [mIfE, Option.bind_eq_some_iff] at hm
  obtain ⟨⟨p1, e1⟩, z, hm⟩ := hm
  refine ⟨P, G, env, fp, p1, e1, k, z, fun G1 H1 fp1 s k1 => ?_⟩
  cases p1 with
  | true => exact ⟨P, G1, e1, fp1, p, env', k1, by simpa using hm, fun v G2 H2 fp2 B s2 k2 t => c v G2 H2 fp2 B (s.trans s2) k2 t⟩
  | false => exact ⟨P, G1, e1, fp1, p, env', k1, by simpa using hm, fun v G2 H2 fp2 B s2 k2 t => c v G2 H2 fp2 B (s.trans s2) k2 t⟩
theorem ve_one {op} {m : ME} (h : VE X a m) : VE X (.BoolOp op [a] pos) m := pe_one h
theorem ve_and {ma mb : ME} (ha : VE X a ma) (hb : VE X (.BoolOp .And (b :: rest) pos) mb) : VE X (.BoolOp .And (a :: b :: rest) pos) (mAndE ma mb) := by
  refine PE.imp (pe_andT ha hb) fun σ H Q q => ?_
  obtain ⟨P, G, env, fp, p, env', k, hm, c⟩ := q
  simp only [mAndE, Option.bind_eq_some_iff] at hm
  obtain ⟨⟨p1, e1⟩, z, o, z2, t1, z3, hm⟩ := hm
  refine ⟨P, G, env, fp, p1, e1, k, z, fun v G1 H1 fp1 B s k1 t => ⟨t1, tru_of k1.sub (one_view k1 t z2) z3, ?_⟩⟩
  cases t1 with
  | true => exact ⟨P, G1, e1, fp1, p, env', k1, by simpa using hm, fun v G2 H2 fp2 B s2 k2 t => c v G2 H2 fp2 B ((s.less fun _ h => .inl h).trans s2) k2 t⟩
  | false => simp at hm; obtain ⟨rfl, rfl⟩ := hm; exact c v G1 H1 fp1 B s k1 t
theorem ve_or {ma mb : ME} (ha : VE X a ma) (hb : VE X (.BoolOp .Or (b :: rest) pos) mb) : VE X (.BoolOp .Or (a :: b :: rest) pos) (mOrE ma mb) := by
  refine PE.imp (pe_orT ha hb) fun σ H Q q => ?_
  obtain ⟨P, G, env, fp, p, env', k, hm, c⟩ := q
  simp only [mOrE, Option.bind_eq_some_iff] at hm
  obtain ⟨⟨p1, e1⟩, z, o, z2, t1, z3, hm⟩ := hm
  refine ⟨P, G, env, fp, p1, e1, k, z, fun v G1 H1 fp1 B s k1 t => ⟨t1, tru_of k1.sub (one_view k1 t z2) z3, ?_⟩⟩
  cases t1 with
  | false => exact ⟨P, G1, e1, fp1, p, env', k1, by simpa using hm, fun v G2 H2 fp2 B s2 k2 t => c v G2 H2 fp2 B ((s.less fun _ h => .inl h).trans s2) k2 t⟩
  | true => simp at hm; obtain ⟨rfl, rfl⟩ := hm; exact c v G1 H1 fp1 B s k1 t
theorem ve_not {m : ME} (h : VE X a m) : VE X (.UnaryOp .Not a pos) (mNotE m) := by
  refine PE.imp (pe_notT h) fun σ H Q q => ?_
  obtain ⟨P, G, env, fp, p, env', k, hm, c⟩ := q
  simp only [mNotE, Option.bind_eq_some_iff] at hm
  obtain ⟨⟨p1, e1⟩, z, o, z2, t1, z3, hm⟩ := hm
  cases hm
  refine ⟨P, G, env, fp, p1, e1, k, z, fun v G1 H1 fp1 B s k1 t => ⟨t1, tru_of k1.sub (one_view k1 t z2) z3, ?_⟩⟩
  exact c _ G1 H1 fp1 [] (s.less fun _ h => .inl (h.elim id fun z => nomatch z)) k1 (k1.extTmp (Ext.refl k1.sub) (.val (.bl _)))
end

/-! ### statements -/
inductive Ctl where
  | nx (env : Env)
  | bk (env : Env)
  | ct (env : Env)
  | rt (o : O) (env : Env)
abbrev MS := Env → Option Ctl
abbrev IO := Nat → Bool
/-- the slots that stand still -/
def Kio (io : IO) (σ σ' : L2.St) : Prop := σ'.length = σ.length ∧ ∀ i, io i = true → σ'[i]? = σ[i]?
theorem Kio.refl (io : IO) (σ : L2.St) : Kio io σ σ := ⟨rfl, fun _ _ => rfl⟩
theorem Kio.trans {io : IO} {σ σ1 σ2 : L2.St} (a : Kio io σ σ1) (b : Kio io σ1 σ2) : Kio io σ σ2 := ⟨b.1.trans a.1, fun i h => (b.2 i h).trans (a.2 i h)⟩
/-- what stands behind a statement -/
structure Aft (K : PySem.W.Frag) (P : Pt) (io : IO) (G H : Hp) (σ : L2.St) (A : AS) (env' : Env) (G' H' : Hp) (σ' : L2.St) (fp' : Fp) : Prop where
  stp : Stp G H A G' H' (Own env' fp')
  kio : Kio io σ σ'
  ok : Ok K P G' H' σ' env' fp'
/-- .. with a value -/
structure AftR (K : PySem.W.Frag) (P : Pt) (io : IO) (G H : Hp) (σ : L2.St) (A : AS) (o : O) (env' : Env) (G' H' : Hp) (σ' : L2.St) (fp' : Fp) (v : V) (B : List Addr) : Prop where
  stp : Stp G H A G' H' (fun a => Own env' fp' a ∨ a ∈ B)
  kio : Kio io σ σ'
  ok : Ok K P G' H' σ' env' fp'
  ro : Ro K G' H' v o B
  nd : B.Nodup
  off : ∀ a ∈ B, ¬ Own env' fp' a ∧ G' a = none ∧ ¬ Pr P a
def endD (K : PySem.W.Frag) (P : Pt) (io : IO) (G H : Hp) (σ : L2.St) (A : AS) (D : Ends) : Ctl → Prop
  | .nx e => ∀ G' H' σ' fp', Aft K P io G H σ A e G' H' σ' fp' → D.nx σ' H'
  | .bk e => ∀ G' H' σ' fp', Aft K P io G H σ A e G' H' σ' fp' → D.bk σ' H'
  | .ct e => ∀ G' H' σ' fp', Aft K P io G H σ A e G' H' σ' fp' → D.ct σ' H'
  | .rt o e => ∀ G' H' σ' fp' v B, AftR K P io G H σ A o e G' H' σ' fp' v B → D.rt v H'
def tM (K : PySem.W.Frag) (io : IO) (m : MS) : TS := fun D σ H => ∃ P G env fp c, Ok K P G H σ env fp ∧ m env = some c ∧ endD K P io G H σ (Own env fp) D c
theorem Aft.trans {K : PySem.W.Frag} {P : Pt} {io : IO} {G H : Hp} {σ : L2.St} {A : AS} {e1 e2 : Env} {G1 H1 G2 H2 : Hp} {σ1 σ2 : L2.St} {fp1 fp2 : Fp} (a : Aft K P io G H σ A e1 G1 H1 σ1 fp1) (b : Aft K P io G1 H1 σ1 (Own e1 fp1) e2 G2 H2 σ2 fp2) :
    Aft K P io G H σ A e2 G2 H2 σ2 fp2 := ⟨a.stp.trans b.stp, a.kio.trans b.kio, b.ok⟩
theorem Aft.transR {K : PySem.W.Frag} {P : Pt} {io : IO} {G H : Hp} {σ : L2.St} {A : AS} {e1 e2 : Env} {G1 H1 G2 H2 : Hp} {σ1 σ2 : L2.St} {fp1 fp2 : Fp} {o : O} {v : V} {B : List Addr} (a : Aft K P io G H σ A e1 G1 H1 σ1 fp1) (b : AftR K P io G1 H1 σ1 (Own e1 fp1) o e2 G2 H2 σ2 fp2 v B) :
    AftR K P io G H σ A o e2 G2 H2 σ2 fp2 v B := ⟨a.stp.trans b.stp, a.kio.trans b.kio, b.ok, b.ro, b.nd, b.off⟩
/-- behind a first part -/
theorem endD.after {K : PySem.W.Frag} {P : Pt} {io : IO} {G H : Hp} {σ : L2.St} {A : AS} {e1 : Env} {G1 H1 : Hp} {σ1 : L2.St} {fp1 : Fp} {D : Ends} {c : Ctl} (a : Aft K P io G H σ A e1 G1 H1 σ1 fp1) (h : endD K P io G H σ A D c) : endD K P io G1 H1 σ1 (Own e1 fp1) D c := by
  cases c with
  | nx e => exact fun G' H' σ' fp' b => h G' H' σ' fp' (a.trans b)
  | bk e => exact fun G' H' σ' fp' b => h G' H' σ' fp' (a.trans b)
  | ct e => exact fun G' H' σ' fp' b => h G' H' σ' fp' (a.trans b)
  | rt o e => exact fun G' H' σ' fp' v B b => h G' H' σ' fp' v B (a.transR b)
theorem Aft.refl {K : PySem.W.Frag} {P : Pt} {io : IO} {G H : Hp} {σ : L2.St} {env : Env} {fp : Fp} (k : Ok K P G H σ env fp) : Aft K P io G H σ (Own env fp) env G H σ fp := ⟨Stp.refl _ _ _, Kio.refl _ _, k⟩
/-- behind an expression -/
theorem Aft.of {K : PySem.W.Frag} {P : Pt} {io : IO} {G H : Hp} {σ : L2.St} {A : AS} {env' : Env} {G' H' : Hp} {fp' : Fp} {B : List Addr} (s : Stp G H A G' H' (fun a => Own env' fp' a ∨ a ∈ B)) (k : Ok K P G' H' σ env' fp') : Aft K P io G H σ A env' G' H' σ fp' := ⟨s.less fun _ h => .inl h, Kio.refl _ _, k⟩

abbrev VS (X : Cx) (io : IO) (st : Stmt) (m : MS) : Prop := PS X st (tM X.K io m)
abbrev VSs (X : Cx) (io : IO) (st : List Stmt) (m : MS) : Prop := PSs X st (tM X.K io m)
theorem PS.imp {X : Cx} {e : Stmt} {t t' : TS} (p : PS X e t) (h : ∀ D σ H, t' D σ H → t D σ H) : PS X e t' := ⟨fun pins s σ H D I q => p.run pins s σ H D I (h D σ H q)⟩
theorem PSs.imp {X : Cx} {e : List Stmt} {t t' : TS} (p : PSs X e t) (h : ∀ D σ H, t' D σ H → t D σ H) : PSs X e t' := ⟨fun pins s σ H D I q => p.run pins s σ H D I (h D σ H q)⟩

@[simp] def mSkip : MS := fun env => some (.nx env)
@[simp] def mSeq (ma mb : MS) : MS := fun env => (ma env).bind fun c => match c with
  | .nx e => mb e
  | .bk e => some (.bk e)
  | .ct e => some (.ct e)
  | .rt o e => some (.rt o e)
@[simp] def mBrk : MS := fun env => some (.bk env)
@[simp] def mCnt : MS := fun env => some (.ct env)
@[simp] def mIfS (mt : MT) (ma mb : MS) : MS := fun env => (mt env).bind fun r => if r.1 = true then ma r.2 else mb r.2
@[simp] def mExpr (m : ME) : MS := fun env => (m env).bind fun r => some (.nx r.2)
@[simp] def mRet (tk : Opd → Env → Option (O × Env)) (m : ME) : MS := fun env => (m env).bind fun r => (tk r.1 r.2).bind fun s => some (.rt s.1 s.2)
@[simp] def mRetN : MS := fun env => some (.rt (.val .none) env)
/-- name = e -/
@[simp] def mSet (i : Nat) (tk : Opd → Env → Option (O × Env)) (m : ME) : MS := fun env => (m env).bind fun r => (tk r.1 r.2).bind fun s => if i < s.2.length then some (.nx (s.2.set i (.wr s.1))) else none

section
variable {X : Cx} {io : IO} {st : Stmt} {rest : List Stmt} {e c : Expr} {pos : Pos}
theorem skip_end {K : PySem.W.Frag} {D : Ends} {σ : L2.St} {H : Hp} (q : tM K io mSkip D σ H) : D.nx σ H := by
  obtain ⟨P, G, env, fp, c, k, hm, h⟩ := q
  cases hm
  exact h G H σ fp (.refl k)
theorem vss_nil : VSs X io [] mSkip := PSs.imp pss_nil fun _ _ _ q => skip_end q
theorem vs_pass : VS X io (.Pass pos) mSkip := PS.imp ps_pass fun _ _ _ q => skip_end q
theorem vs_doc {x j pos'} : VS X io (.Expr (.Constant (.str x) j pos) pos') mSkip := PS.imp ps_doc fun _ _ _ q => skip_end q
theorem vs_brk : VS X io (.Break pos) mBrk := PS.imp ps_break fun D σ H q => by
  obtain ⟨P, G, env, fp, c, k, hm, h⟩ := q
  cases hm
  exact h G H σ fp (.refl k)
theorem vs_cnt : VS X io (.Continue pos) mCnt := PS.imp ps_continue fun D σ H q => by
  obtain ⟨P, G, env, fp, c, k, hm, h⟩ := q
  cases hm
  exact h G H σ fp (.refl k)
theorem vss_one {m : MS} (h : VS X io st m) : VSs X io [st] m := pss_one h
theorem vss_cons {ma mb : MS} (ha : VS X io st ma) (hb : VSs X io rest mb) : VSs X io (st :: rest) (mSeq ma mb) := by
  refine PSs.imp (pss_cons ha hb) fun D σ H q => ?_
  obtain ⟨P, G, env, fp, c, k, hm, h⟩ := q
  simp only [mSeq, Option.bind_eq_some_iff] at hm
  obtain ⟨c1, z, hm⟩ := hm
  refine ⟨P, G, env, fp, c1, k, z, ?_⟩
  cases c1 with
  | nx e1 => exact fun G1 H1 σ1 fp1 a => ⟨P, G1, e1, fp1, c, a.ok, hm, endD.after a h⟩
  | bk e1 => cases hm; exact h
  | ct e1 => cases hm; exact h
  | rt o e1 => cases hm; exact h
theorem vs_if {mt : MT} {a b : List Stmt} {ma mb : MS} (hc : VT X c mt) (ha : VSs X io a ma) (hb : VSs X io b mb) : VS X io (.If c a b pos) (mIfS mt ma mb) := by
  refine PS.imp (ps_if hc ha hb) fun D σ H q => ?_
  obtain ⟨P, G, env, fp, c, k, hm, h⟩ := q
  simp only [mIfS, Option.bind_eq_some_iff] at hm
  obtain ⟨⟨b, e1⟩, z, hm⟩ := hm
  refine ⟨P, G, env, fp, b, e1, k, z, fun G1 H1 fp1 s k1 => ?_⟩
  have a : Aft X.K P io G H σ (Own env fp) e1 G1 H1 σ fp1 := ⟨s, Kio.refl _ _, k1⟩
  cases b with
  | true => exact ⟨P, G1, e1, fp1, c, k1, by simpa using hm, endD.after a h⟩
  | false => exact ⟨P, G1, e1, fp1, c, k1, by simpa using hm, endD.after a h⟩
theorem vs_expr {m : ME} (he : VE X e m) (hs : swapsWith e none pos.line X.env = pure false := by rfl) : VS X io (.Expr e pos) (mExpr m) := by
  refine PS.imp (ps_expr he hs) fun D σ H q => ?_
  obtain ⟨P, G, env, fp, c, k, hm, h⟩ := q
  simp only [mExpr, Option.bind_eq_some_iff] at hm
  obtain ⟨⟨p, e1⟩, z, hm⟩ := hm
  cases hm
  exact ⟨P, G, env, fp, p, e1, k, z, fun v G1 H1 fp1 B s k1 t => h G1 H1 σ fp1 (.of s k1)⟩
theorem vs_ret {tk} {m : ME} (tok : TakeOk tk) (he : VE X e m) : VS X io (.Return (some e) pos) (mRet tk m) := by
  refine PS.imp (ps_ret he) fun D σ H q => ?_
  obtain ⟨P, G, env, fp, c, k, hm, h⟩ := q
  simp only [mRet, Option.bind_eq_some_iff] at hm
  obtain ⟨⟨p, e1⟩, z, ⟨o, e2⟩, z2, hm⟩ := hm
  cases hm
  refine ⟨P, G, env, fp, p, e1, k, z, fun v G1 H1 fp1 B s k1 t => ?_⟩
  obtain ⟨G2, fp2, B1, C, x⟩ := tok k1 t z2
  refine h G2 H1 σ fp2 v B1 ⟨s.trans ⟨x.ge, fun _ _ h _ => h, fun a h => ?_, fun a u h => (x.frz a u h).imp id .inl⟩, Kio.refl _ _, x.ok, x.ro, x.nd, fun a ha => ⟨(x.off a ha).1, (x.off a ha).2.1, (x.off a ha).2.2.1⟩⟩
  rcases h with h | h
  · exact .inl (.inl (x.own a h))
  · exact .inl ((x.sub a (.inl h)).symm)
theorem vs_retN : VS X io (.Return none pos) mRetN := PS.imp ps_retN fun D σ H q => by
  obtain ⟨P, G, env, fp, c, k, hm, h⟩ := q
  cases hm
  exact h G H σ fp .non [] ⟨(Stp.refl _ _ _).less (fun a h => h.elim id (fun z => nomatch z)), Kio.refl _ _, k, .val .non, List.nodup_nil, fun _ z => nomatch z⟩
theorem kio_set {σ : L2.St} {i : Nat} {x : Option V} (h : io i = false) : Kio io σ (σ.set i x) := ⟨List.length_set, fun j hj => by
  rw [List.getElem?_set_ne]
  intro e
  subst e
  rw [h] at hj; cases hj⟩
/-- the store of what was taken -/
theorem store_tk {K : PySem.W.Frag} {P : Pt} {G H : Hp} {σ : L2.St} {env : Env} {fp : Fp} {v : V} {vs : List V} {p : Opd} {ps : List Opd} {B : List Addr} {o : O} {env' : Env} {tk} {i : Nat} (tok : TakeOk tk) (hio : io i = false) (k : Ok K P G H σ env fp) (t : Tps K P G H σ (Own env fp) (v :: vs) (p :: ps) B)
    (z : tk p env = some (o, env')) (hl : i < env'.length) {G0 H0 : Hp} {A : AS} (s : Stp G0 H0 A G H (fun a => Own env fp a ∨ a ∈ B)) : ∃ G' fp', Aft K P io G0 H0 σ A (env'.set i (.wr o)) G' H (σ.set i (some v)) fp' := by
  obtain ⟨G2, fp2, B1, C, x⟩ := tok k t z
  refine ⟨G2, setF fp2 i B1, ?_, kio_set hio, x.ok.put hl x.ro x.nd fun a ha => ⟨(x.off a ha).2.1, (x.off a ha).2.2.1, fun j q hj e ha' => (x.off a ha).1 ⟨j, q, e, ha'⟩⟩⟩
  refine s.trans ⟨x.ge, fun _ _ h _ => h, fun a h => ?_, fun a u h => (x.frz a u h).imp id .inl⟩
  rcases own_put h with h | h
  · exact .inl (.inl (x.own a h))
  · exact .inl ((x.sub a (.inl h)).symm)
theorem vs_set {tk} {m : ME} {i : Nat} {x : Str} {pos' : Pos} (tok : TakeOk tk) (hio : io i = false) (hN : X.N.Nodup) (hi : X.N[i]? = some x) (hx : Loc X.env.scope x) (he : VE X e m) (hs : swapsWith e (some (.Name x pos')) pos.line X.env = pure false := by rfl)
    (hf : X.fn x = true ∨ X.env.scope.names.lookup x = some .local := by first | exact .inl rfl | exact .inr rfl | assumption) : VS X io (.Assign [.Name x pos'] e pos) (mSet i tk m) := by
  refine PS.imp (ps_set hN hi hx he hs hf) fun D σ H q => ?_
  obtain ⟨P, G, env, fp, c, k, hm, h⟩ := q
  simp only [mSet, Option.bind_eq_some_iff] at hm
  obtain ⟨⟨p, e1⟩, z, ⟨o, e2⟩, z2, hm⟩ := hm
  split at hm
  · rename_i hl
    cases hm
    refine ⟨P, G, env, fp, p, e1, k, z, fun v G1 H1 fp1 B s k1 t => ?_⟩
    obtain ⟨G2, fp2, a⟩ := store_tk tok hio k1 t z2 hl s
    exact h G2 H1 _ fp2 a
  · cases hm
end
end Pv

namespace Pv
open PySem PySem.Spec PyProof.Rows L2

/-! ### targets -/
abbrev MG := D → Env → Option Env
abbrev MGs := List D → Env → Option Env
def tG (K : PySem.W.Frag) (io : IO) (f : MG) : TG := fun v σ H Q => ∃ P G env fp d env', Ok K P G H σ env fp ∧ Dq K G v d ∧ f d env = some env' ∧ ∀ σ' fp', Aft K P io G H σ (Own env fp) env' G H σ' fp' → Q σ' H
def tGs (K : PySem.W.Frag) (io : IO) (f : MGs) : TGs := fun vs σ H Q => ∃ P G env fp ds env', Ok K P G H σ env fp ∧ DqAll K G vs ds ∧ f ds env = some env' ∧ ∀ σ' fp', Aft K P io G H σ (Own env fp) env' G H σ' fp' → Q σ' H
abbrev VG (X : Cx) (io : IO) (tg : Expr) (f : MG) : Prop := PG X tg (tG X.K io f)
abbrev VGs (X : Cx) (io : IO) (tg : List Expr) (f : MGs) : Prop := PGs X tg (tGs X.K io f)
theorem PG.imp {X : Cx} {e : Expr} {t t' : TG} (p : PG X e t) (h : ∀ v σ H Q, t' v σ H Q → t v σ H Q) : PG X e t' := ⟨fun pins s σ H v u Q I r q => p.run pins s σ H v u Q I r (h v σ H Q q)⟩
theorem PGs.imp {X : Cx} {e : List Expr} {t t' : TGs} (p : PGs X e t) (h : ∀ v σ H Q, t' v σ H Q → t v σ H Q) : PGs X e t' := ⟨fun pins s σ H v u Q I r q => p.run pins s σ H v u Q I r (h v σ H Q q)⟩
@[simp] def fName (i : Nat) : MG := fun d env => if i < env.length then some (env.set i (.wr (.val d))) else none
@[simp] def fNil : MGs := fun ds env => match ds with
  | [] => some env
  | _ => none
@[simp] def fCons (f : MG) (g : MGs) : MGs := fun ds env => match ds with
  | d :: r => (f d env).bind fun e => g r e
  | [] => none
@[simp] def fTup (n : Nat) (g : MGs) : MG := fun d env => match d with
  | .tuple ds => if ds.length = n then g ds env else none
  | _ => none
@[simp] def fUnl (n : Nat) (g : MGs) : MG := fun d env => match d with
  | .list ds => if ds.length = n then g ds env else none
  | _ => none
theorem aft_put {K : PySem.W.Frag} {P : Pt} {io : IO} {G H : Hp} {σ : L2.St} {env : Env} {fp : Fp} {i : Nat} {v : V} {d : D} (k : Ok K P G H σ env fp) (hio : io i = false) (hl : i < env.length) (r : Dq K G v d) :
    Aft K P io G H σ (Own env fp) (env.set i (.wr (.val d))) G H (σ.set i (some v)) (setF fp i []) :=
  ⟨(Stp.refl _ _ _).less fun a h => own_val h, kio_set hio, k.put hl (.val r) List.nodup_nil fun _ h => nomatch h⟩
section
variable {X : Cx} {io : IO} {e tg : Expr} {es : List Expr} {pos : Pos}
theorem vg_name {i : Nat} {x : Str} (hio : io i = false) (hN : X.N.Nodup) (hi : X.N[i]? = some x) (hx : Loc X.env.scope x) (hf : X.fn x = true ∨ X.env.scope.names.lookup x = some .local := by first | exact .inl rfl | exact .inr rfl | assumption) : VG X io (.Name x pos) (fName i) := by
  refine PG.imp (pg_name hN hi hx hf) fun v σ H Q q => ?_
  obtain ⟨P, G, env, fp, d, env', k, r, hm, c⟩ := q
  simp only [fName] at hm
  split at hm
  · rename_i hl
    cases hm
    exact c _ _ (aft_put k hio hl r)
  · cases hm
theorem vgs_nil : VGs X io [] fNil := by
  refine PGs.imp pgs_nil fun v σ H Q q => ?_
  obtain ⟨P, G, env, fp, d, env', k, r, hm, c⟩ := q
  cases r with
  | nil => cases hm; exact ⟨rfl, c σ fp (.refl k)⟩
  | cons h1 h2 => cases hm
theorem vgs_cons {f : MG} {g : MGs} (h1 : VG X io e f) (h2 : VGs X io es g) (hs : (assignEach (e :: es) X.env).map (·.2) = assign e X.env :: (assignEach es X.env).map (·.2) := by rfl) : VGs X io (e :: es) (fCons f g) := by
  refine PGs.imp (pgs_cons h1 h2 hs) fun v σ H Q q => ?_
  obtain ⟨P, G, env, fp, d, env', k, r, hm, c⟩ := q
  cases r with
  | nil => cases hm
  | cons r1 r2 =>
    simp only [fCons, Option.bind_eq_some_iff] at hm
    obtain ⟨e1, z, hm⟩ := hm
    refine ⟨_, _, rfl, P, G, env, fp, _, e1, k, r1, z, fun σ1 fp1 a1 => ?_⟩
    exact ⟨P, G, e1, fp1, _, env', a1.ok, r2, hm, fun σ2 fp2 a2 => c σ2 fp2 (a1.trans a2)⟩
theorem vg_tup {k : Nat} {g : MGs} {n : Nat} (hc : X.calm = true) (h : VGs X io es g) (hn : (assignEach es X.env).length = n := by rfl) (hst : (assignEach es X.env).findIdx? (·.1) = none := by rfl) : VG X io (.Tuple es k pos) (fTup n g) := by
  refine PG.imp (pg_tup hc h hn hst) fun v σ H Q q => ?_
  obtain ⟨P, G, env, fp, d, env', k, r, hm, c⟩ := q
  unfold fTup at hm
  split at hm
  · split at hm
    · rename_i ds hl
      cases r with
      | tup h1 h2 => exact ⟨_, _, rfl, sqt_mono k.sub h1, by rw [dps_len h2]; exact hl, P, G, env, fp, _, env', k, h2, hm, c⟩
    · cases hm
  · cases hm
theorem vg_unl {k : Nat} {g : MGs} {n : Nat} (hc : X.calm = true) (h : VGs X io es g) (hn : (assignEach es X.env).length = n := by rfl) (hst : (assignEach es X.env).findIdx? (·.1) = none := by rfl) : VG X io (.Tuple es k pos) (fUnl n g) := by
  refine PG.imp (pg_unl hc h hn hst) fun v σ H Q q => ?_
  obtain ⟨P, G, env, fp, d, env', k, r, hm, c⟩ := q
  unfold fUnl at hm
  split at hm
  · split at hm
    · rename_i ds hl
      cases r with
      | lst h1 h2 => exact ⟨_, _, rfl, (sqk_mono k.sub h1).l, by rw [dps_len h2]; exact hl, P, G, env, fp, _, env', k, h2, hm, c⟩
    · cases hm
  · cases hm
/-- target = e, the value frozen -/
@[simp] def mUnp (f : MG) (m : ME) : MS := fun env => (m env).bind fun r => (takeF r.1 r.2).bind fun s => match s.1 with
  | .val d => (f d s.2).bind fun e => some (.nx e)
  | _ => none
theorem vs_asg {f : MG} {m : ME} (he : VE X e m) (hg : VG X io tg f) (hs : swapsWithSole [tg] e pos.line X.env = pure false := by rfl) (hw : swappedStores [tg] e X.env = pure none := by rfl) (h1 : (assignEach [tg] X.env).map (·.2) = [assign tg X.env] := by rfl) :
    VS X io (.Assign [tg] e pos) (mUnp f m) := by
  refine PS.imp (ps_asg he hg hs hw h1) fun D σ H q => ?_
  obtain ⟨P, G, env, fp, c, k, hm, h⟩ := q
  simp only [mUnp, Option.bind_eq_some_iff] at hm
  obtain ⟨⟨p, e1⟩, z, ⟨o, e2⟩, z2, hm⟩ := hm
  split at hm
  · rename_i d ho
    have ho : o = .val d := ho
    subst ho
    simp only [Option.bind_eq_some_iff] at hm
    obtain ⟨e3, z3, hm⟩ := hm
    cases hm
    refine ⟨P, G, env, fp, p, e1, k, z, fun v G1 H1 fp1 B s k1 t => ?_⟩
    obtain ⟨G2, fp2, B1, C, x⟩ := takeF_ok k1 t z2
    obtain ⟨r, rfl⟩ := ro_val_inv x.ro
    refine ⟨P, G2, e2, fp2, d, e3, x.ok, r, z3, fun σ3 fp3 a => ?_⟩
    have a1 : Aft X.K P io G H σ (Own env fp) e2 G2 H1 σ fp2 := ⟨s.trans ⟨x.ge, fun _ _ h _ => h, fun a h => .inl (.inl (x.own a h)), fun a u h => (x.frz a u h).imp id .inl⟩, Kio.refl _ _, x.ok⟩
    exact h G2 H1 σ3 fp3 (a1.trans a)
  · cases hm
end

/-! ### a slot that is held still -/
def lockP (P : Pt) (j : Nat) (A : List Addr) : Pt := fun k a => P k a ∨ (k = j ∧ a ∈ A)
def lockIO (io : IO) (j : Nat) : IO := fun i => io i || i == j
def unlock (j : Nat) (o : O) : Ctl → Ctl
  | .nx e => .nx (e.set j (.wr o))
  | .bk e => .bk (e.set j (.wr o))
  | .ct e => .ct (e.set j (.wr o))
  | .rt r e => .rt r (e.set j (.wr o))
def mLock (j : Nat) (m : MS) : MS := fun env => match env[j]? with
  | some (.wr o) => (m (env.set j (.rd o))).bind fun c => some (unlock j o c)
  | _ => none
def mLockE (j : Nat) (m : ME) : ME := fun env => match env[j]? with
  | some (.wr o) => (m (env.set j (.rd o))).bind fun r => match r.1 with
    | .tmp q => some (.tmp q, r.2.set j (.wr o))
    | _ => none
  | _ => none
section
variable {K : PySem.W.Frag} {P : Pt} {G H G' H' : Hp} {σ σ' : L2.St} {env env' : Env} {fp fp' : Fp} {j : Nat} {o : O} {B : List Addr}
theorem own_lock {a : Addr} (e : env[j]? = some (.wr o)) (h : Own (env.set j (.rd o)) fp a) : Own env fp a ∧ (∀ q, env[j]? = some (.wr q) → True) ∧ ∃ i q, i ≠ j ∧ env[i]? = some (.wr q) ∧ a ∈ fp i := by
  obtain ⟨i, q, e', ha⟩ := h
  by_cases hi : i = j
  · subst hi; rw [set_eq e] at e'; cases e'
  · rw [set_ne hi] at e'
    exact ⟨⟨i, q, e', ha⟩, fun _ _ => trivial, i, q, hi, e', ha⟩
theorem Ok.lock (k : Ok K P G H σ env fp) (e : env[j]? = some (.wr o)) : Ok K (lockP P j (fp j)) G H σ (env.set j (.rd o)) fp where
  len := by rw [List.length_set]; exact k.len
  wr := fun i q h => by
    by_cases hi : i = j
    · subst hi; rw [set_eq e] at h; cases h
    · rw [set_ne hi] at h; exact k.wr i q h
  rd := fun i q h => by
    by_cases hi : i = j
    · subst hi; rw [set_eq e] at h; cases h; exact k.wr i _ e
    · rw [set_ne hi] at h; exact k.rd i q h
  sub := k.sub
  nd := fun i q h => by
    by_cases hi : i = j
    · subst hi; rw [set_eq e] at h; cases h
    · rw [set_ne hi] at h; exact k.nd i q h
  off := fun i q a h => by
    by_cases hi : i = j
    · subst hi; rw [set_eq e] at h; cases h
    · rw [set_ne hi] at h; exact k.off i q a h
  apart := fun i l q q' a hn h h' => by
    by_cases hi : i = j
    · subst hi; rw [set_eq e] at h; cases h
    · by_cases hl : l = j
      · subst hl; rw [set_eq e] at h'; cases h'
      · rw [set_ne hi] at h; rw [set_ne hl] at h'; exact k.apart i l q q' a hn h h'
  prot := fun i q a h ha => by
    by_cases hi : i = j
    · subst hi; exact .inr ⟨rfl, ha⟩
    · rw [set_ne hi] at h; exact .inl (k.prot i q a h ha)
  free := fun i q a h ha => by
    by_cases hi : i = j
    · subst hi; rw [set_eq e] at h; cases h
    · rw [set_ne hi] at h
      rintro ⟨l, hl | ⟨rfl, hl⟩⟩
      · exact k.free i q a h ha ⟨l, hl⟩
      · exact k.apart i l q o a hi h e ha hl
  there := fun a h => by
    obtain ⟨l, hl | ⟨rfl, hl⟩⟩ := h
    · exact k.there a ⟨l, hl⟩
    · obtain ⟨v, _, r⟩ := k.wr l o e
      exact ro_some _ _ _ r a hl
/-- .. and let go -/
theorem Ok.unlock {A' : AS} (k : Ok K P G H σ env fp) (e : env[j]? = some (.wr o)) (k' : Ok K (lockP P j (fp j)) G' H' σ' env' fp') (hσ : σ'[j]? = σ[j]?) (s : Stp G H (Own (env.set j (.rd o)) fp) G' H' A') :
    Ok K P G' H' σ' (env'.set j (.wr o)) (setF fp' j (fp j)) := by
  obtain ⟨v, hv, r⟩ := k.wr j o e
  have nO : ∀ a ∈ fp j, ¬ Own (env.set j (.rd o)) fp a := fun a ha q => by
    obtain ⟨_, _, i, q, hi, e', ha'⟩ := own_lock e q
    exact k.apart i j q o a hi e' e ha' ha
  have hH : ∀ a ∈ fp j, H' a = H a := fun a ha => by
    obtain ⟨u, z⟩ := ro_some _ _ _ r a ha
    rw [z]; exact s.keep a u z (nO a ha)
  have hG : ∀ a ∈ fp j, G' a = none := fun a ha => by
    cases z : G' a with
    | none => rfl
    | some w =>
      rcases s.frz a w z with y | y | y
      · rw [k.off j o a e ha] at y; cases y
      · exact absurd y (nO a ha)
      · obtain ⟨u, z⟩ := ro_some _ _ _ r a ha
        rw [z] at y; cases y
  have hl : j < env'.length := by
    have : j < σ.length := (List.getElem?_eq_some_iff.mp hv).1
    rw [hv] at hσ
    rw [← k'.len]; exact (List.getElem?_eq_some_iff.mp hσ).1
  have hv' : σ'[j]? = some (some v) := hσ.trans hv
  have k1 : Ok K P G' H' σ' (env'.set j .emp) fp' := by
    have kd := k'.drop j
    refine ⟨kd.len, kd.wr, kd.rd, kd.sub, kd.nd, kd.off, kd.apart, fun i q a h ha => ?_, fun i q a h ha z => ?_, fun a h => ?_⟩
    · rcases kd.prot i q a h ha with y | ⟨rfl, y⟩
      · exact y
      · rw [List.getElem?_set] at h; simp at h
    · obtain ⟨l, y⟩ := z
      exact kd.free i q a h ha ⟨l, .inl y⟩
    · obtain ⟨l, y⟩ := h
      exact kd.there a ⟨l, .inl y⟩
  have k2 := k1.put (i := j) (v := v) (o := o) (B := fp j) (by rw [List.length_set]; exact hl) (ro_mono s.ge _ _ _ hH r) (k.nd j o e) fun a ha => ⟨hG a ha, k.free j o a e ha, fun i q hi h ha' => by
    rw [set_ne hi] at h
    exact k'.free i q a h ha' ⟨j, .inr ⟨rfl, ha⟩⟩⟩
  rw [set_same hv', List.set_set] at k2
  exact k2
theorem stp_lock (k : Ok K P G H σ env fp) (e : env[j]? = some (.wr o)) (s : Stp G H (Own (env.set j (.rd o)) fp) G' H' (fun a => Own env' fp' a ∨ a ∈ B)) : Stp G H (Own env fp) G' H' (fun a => Own (env'.set j (.wr o)) (setF fp' j (fp j)) a ∨ a ∈ B) where
  ge := s.ge
  keep := fun a u h n => s.keep a u h fun q => n (own_lock e q).1
  own := fun a h => by
    rcases h with h | h
    · rcases own_put h with h | h
      · exact (s.own a (.inl h)).imp (fun q => (own_lock e q).1) id
      · exact .inl ⟨j, o, e, h⟩
    · exact (s.own a (.inr h)).imp (fun q => (own_lock e q).1) id
  frz := fun a u h => (s.frz a u h).imp id fun q => q.imp (fun q => (own_lock e q).1) id
/-- what was made meanwhile stands apart from the held slot -/
theorem off_lock (k : Ok K P G H σ env fp) (e : env[j]? = some (.wr o)) (s : Stp G H (Own (env.set j (.rd o)) fp) G' H' (fun a => Own env' fp' a ∨ a ∈ B)) (h : ∀ a ∈ B, ¬ Own env' fp' a ∧ G' a = none ∧ ¬ Pr (lockP P j (fp j)) a) :
    ∀ a ∈ B, ¬ Own (env'.set j (.wr o)) (setF fp' j (fp j)) a ∧ G' a = none ∧ ¬ Pr P a := fun a ha => by
  obtain ⟨n1, n2, n3⟩ := h a ha
  refine ⟨fun q => ?_, n2, fun ⟨l, q⟩ => n3 ⟨l, .inl q⟩⟩
  rcases own_put q with q | q
  · exact n1 q
  · exact n3 ⟨j, .inr ⟨rfl, q⟩⟩
end
theorem kio_lock {io : IO} {j : Nat} {σ σ' : L2.St} (h : Kio (lockIO io j) σ σ') : Kio io σ σ' ∧ σ'[j]? = σ[j]? :=
  ⟨⟨h.1, fun i hi => h.2 i (by simp [lockIO, hi])⟩, h.2 j (by simp [lockIO])⟩
section
variable {X : Cx} {io : IO} {e : Expr} {st : Stmt} {j : Nat}
theorem vs_lock {m : MS} (h : VS X (lockIO io j) st m) : VS X io st (mLock j m) := by
  refine PS.imp h fun D σ H q => ?_
  obtain ⟨P, G, env, fp, c, k, hm, h⟩ := q
  unfold mLock at hm
  split at hm
  · rename_i o e
    simp only [Option.bind_eq_some_iff] at hm
    obtain ⟨c1, z, hm⟩ := hm
    refine ⟨_, G, _, fp, c1, k.lock e, z, ?_⟩
    have conv : ∀ {e1 : Env} {G1 H1 : Hp} {σ1 : L2.St} {fp1 : Fp}, Aft X.K (lockP P j (fp j)) (lockIO io j) G H σ (Own (env.set j (.rd o)) fp) e1 G1 H1 σ1 fp1 → Aft X.K P io G H σ (Own env fp) (e1.set j (.wr o)) G1 H1 σ1 (setF fp1 j (fp j)) := fun {e1 G1 H1 σ1 fp1} a => by
      obtain ⟨k1, k2⟩ := kio_lock a.kio
      have s0 : Stp G H (Own (env.set j (.rd o)) fp) G1 H1 (fun a => Own e1 fp1 a ∨ a ∈ ([] : List Addr)) := a.stp.less fun a h => h.elim id (fun z => nomatch z)
      exact ⟨(stp_lock k e s0).less fun _ h => .inl h, k1, k.unlock e a.ok k2 a.stp⟩
    cases c1 with
    | nx e1 => cases hm; exact fun G1 H1 σ1 fp1 a => h _ _ _ _ (conv a)
    | bk e1 => cases hm; exact fun G1 H1 σ1 fp1 a => h _ _ _ _ (conv a)
    | ct e1 => cases hm; exact fun G1 H1 σ1 fp1 a => h _ _ _ _ (conv a)
    | rt r e1 =>
      cases hm
      intro G1 H1 σ1 fp1 v B a
      obtain ⟨k1, k2⟩ := kio_lock a.kio
      exact h _ _ _ _ v B ⟨stp_lock k e a.stp, k1, k.unlock e a.ok k2 a.stp, a.ro, a.nd, off_lock k e a.stp a.off⟩
  · cases hm
theorem lock_seq {K : PySem.W.Frag} {m : ME} {σ : L2.St} {H : Hp} {Q : VK} (q : tN K (mLockE j m) σ H Q) : tN K m σ H Q := by
  obtain ⟨P, G, env, fp, c, env', k, hm, h⟩ := q
  unfold mLockE at hm
  split at hm
  · rename_i o e
    simp only [Option.bind_eq_some_iff] at hm
    obtain ⟨⟨p, e1⟩, z, hm⟩ := hm
    split at hm
    · rename_i q hp
      have hp : p = .tmp q := hp
      subst hp
      cases hm
      refine ⟨_, G, _, fp, _, e1, k.lock e, z, fun v G1 H1 fp1 B s k1 t => ?_⟩
      exact h v G1 H1 _ B (stp_lock k e s) (k.unlock e k1 rfl s) ⟨t.rep, t.nd, off_lock k e s t.off⟩
    · cases hm
  · cases hm
theorem ve_lock {m : ME} (h : VE X e m) : VE X e (mLockE j m) := PE.imp h fun _ _ _ q => lock_seq q
end
end Pv

namespace Pv
open PySem PySem.Spec PyProof.Rows L2

/-! ### what a loop goes through -/
structure Src (K : PySem.W.Frag) (J : It) (ds : List D) (Z : List Addr) (G H : Hp) : Prop where
  go : ∀ i G' H', Sub G G' → Sub G' H' → (∀ a ∈ Z, H' a = H a) → ∀ d, ds[i]? = some d → J.go i H' ∧ ∀ x H'', J.yld i H' x H'' → ∃ G'', Ext G' H' G'' H'' [] ∧ Dq K G'' x d
  stop : ∀ i G' H', Sub G G' → Sub G' H' → (∀ a ∈ Z, H' a = H a) → ds.length ≤ i → J.stop i H'
  has : ∀ a ∈ Z, ∃ u, H a = some u
theorem Src.step {K : PySem.W.Frag} {J : It} {ds : List D} {Z : List Addr} {G H G1 H1 : Hp} {A A1 : AS} (s : Src K J ds Z G H) (t : Stp G H A G1 H1 A1) (h : ∀ a ∈ Z, ¬ A a) : Src K J ds Z G1 H1 ∧ ∀ a ∈ Z, ¬ A1 a := by
  have e : ∀ a ∈ Z, H1 a = H a := fun a ha => by
    obtain ⟨u, q⟩ := s.has a ha
    rw [q]; exact t.keep a u q (h a ha)
  refine ⟨⟨fun i G' H' g g' k => s.go i G' H' (t.ge.trans g) g' fun a ha => (k a ha).trans (e a ha), fun i G' H' g g' k => s.stop i G' H' (t.ge.trans g) g' fun a ha => (k a ha).trans (e a ha), fun a ha => ?_⟩, fun a ha q => ?_⟩
  · rw [e a ha]; exact s.has a ha
  · rcases t.own a q with z | z
    · exact h a ha z
    · obtain ⟨u, q⟩ := s.has a ha
      rw [q] at z; cases z
abbrev MI := Env → Option (List D × Env)
def tI (K : PySem.W.Frag) (m : MI) : TI := fun σ H R => ∃ P G env fp ds env', Ok K P G H σ env fp ∧ m env = some (ds, env') ∧
  ∀ J G' H' fp' Z, Stp G H (Own env fp) G' H' (Own env' fp') → Ok K P G' H' σ env' fp' → Src K J ds Z G' H' → (∀ a ∈ Z, ¬ Own env' fp' a) → R J H'
abbrev VI (X : Cx) (tg iter : Expr) (m : MI) : Prop := PI X tg iter (tI X.K m)
theorem PI.imp {X : Cx} {tg e : Expr} {t t' : TI} (p : PI X tg e t) (h : ∀ σ H R, t' σ H R → t σ H R) : PI X tg e t' := ⟨fun pins s σ H R I q => p.run pins s σ H R I (h σ H R q)⟩

/-- the loop -/
def forL (f : MG) (body : MS) : List D → Env → Option Ctl
  | [], env => some (.nx env)
  | d :: ds, env => (f d env).bind fun e => (body e).bind fun c => match c with
    | .nx e1 => forL f body ds e1
    | .ct e1 => forL f body ds e1
    | .bk e1 => some (.nx e1)
    | .rt o e1 => some (.rt o e1)
@[simp] def mFor (src : MI) (f : MG) (body : MS) : MS := fun env => (src env).bind fun r => forL f body r.1 r.2
section
variable {X : Cx} {io : IO} {tg iter c e e2 : Expr} {body : List Stmt} {pos p : Pos}
theorem vs_for {src : MI} {f : MG} {m : MS} (hp : PassesOwn (model X.prog X.w) X.A X.env X.xe) (hc : X.calm = true) (hi : VI X tg iter src) (hg : VG X io tg f) (hb : VSs X io body m) (hs : ∀ x, foldedSetIterable iter X.env x = pure x := by intro _; rfl) :
    VS X io (.For tg iter body [] pos) (mFor src f m) := by
  refine PS.imp (ps_for hp hc hi hg hb hs) fun D σ H q => ?_
  obtain ⟨P, G, env, fp, c, k, hm, h⟩ := q
  simp only [mFor, Option.bind_eq_some_iff] at hm
  obtain ⟨⟨ds, e1⟩, z, hm⟩ := hm
  refine ⟨P, G, env, fp, ds, e1, k, z, fun J G1 H1 fp1 Z s1 k1 src1 hZ => ?_⟩
  have a1 : Aft X.K P io G H σ (Own env fp) e1 G1 H1 σ fp1 := ⟨s1, Kio.refl _ _, k1⟩
  refine ⟨fun i n σ' H' => n = ds.length - i ∧ i ≤ ds.length ∧ ∃ G' env' fp', Aft X.K P io G H σ (Own env fp) env' G' H' σ' fp' ∧ forL f m (ds.drop i) env' = some c ∧ Src X.K J ds Z G' H' ∧ ∀ a ∈ Z, ¬ Own env' fp' a,
    ⟨ds.length, by simp, Nat.zero_le _, G1, e1, fp1, a1, by simpa using hm, src1, hZ⟩, ?_⟩
  rintro i n σ2 H2 ⟨rfl, hi, G2, env2, fp2, a2, hf, src2, hZ2⟩
  by_cases hl : i < ds.length
  · refine .inr ?_
    have hd : ds[i]? = some ds[i] := by simp [hl]
    rw [List.drop_eq_getElem_cons hl] at hf
    simp only [forL, Option.bind_eq_some_iff] at hf
    obtain ⟨env3, z3, c1, z4, hf⟩ := hf
    obtain ⟨go, yl⟩ := src2.go i G2 H2 (Sub.refl _) a2.ok.sub (fun _ _ => rfl) _ hd
    refine ⟨go, fun σ' H' => ∃ m', m' < ds.length - i ∧ (m' = ds.length - (i + 1) ∧ i + 1 ≤ ds.length ∧ ∃ G' env' fp', Aft X.K P io G H σ (Own env fp) env' G' H' σ' fp' ∧ forL f m (ds.drop (i + 1)) env' = some c ∧ Src X.K J ds Z G' H' ∧ ∀ a ∈ Z, ¬ Own env' fp' a), fun _ _ q => q, fun x H3 y => ?_⟩
    obtain ⟨G3, ext, dx⟩ := yl x H3 y
    have k3 := a2.ok.ext ext
    have s3 := (a2.ok.extStp ext).less (A2 := Own env2 fp2) fun _ h => .inl h
    have a3 : Aft X.K P io G H σ (Own env fp) env2 G3 H3 σ2 fp2 := a2.trans ⟨s3, Kio.refl _ _, k3⟩
    obtain ⟨src3, hZ3⟩ := src2.step s3 hZ2
    refine ⟨P, G3, env2, fp2, _, env3, k3, dx, z3, fun σ4 fp4 a4 => ?_⟩
    obtain ⟨src4, hZ4⟩ := src3.step a4.stp hZ3
    have a4' := a3.trans a4
    refine ⟨P, G3, env3, fp4, c1, a4.ok, z4, ?_⟩
    cases c1 with
    | nx e5 =>
      intro G5 H5 σ5 fp5 a5
      obtain ⟨src5, hZ5⟩ := src4.step a5.stp hZ4
      exact ⟨_, by omega, rfl, hl, G5, e5, fp5, a4'.trans a5, hf, src5, hZ5⟩
    | ct e5 =>
      intro G5 H5 σ5 fp5 a5
      obtain ⟨src5, hZ5⟩ := src4.step a5.stp hZ4
      exact ⟨_, by omega, rfl, hl, G5, e5, fp5, a4'.trans a5, hf, src5, hZ5⟩
    | bk e5 =>
      intro G5 H5 σ5 fp5 a5
      cases hf
      exact h G5 H5 σ5 fp5 (a4'.trans a5)
    | rt o e5 =>
      intro G5 H5 σ5 fp5 v B a5
      cases hf
      exact h G5 H5 σ5 fp5 v B (a4'.transR a5)
  · have hi : i = ds.length := by omega
    subst hi
    simp only [List.drop_length, forL] at hf
    cases hf
    exact .inl ⟨src2.stop _ G2 H2 (Sub.refl _) a2.ok.sub (fun _ _ => rfl) (Nat.le_refl _), h G2 H2 σ2 fp2 a2⟩

/-! ### sources -/
/-- an operand's items, that stand still -/
def itemsO : O → Option (List D)
  | .val (.list ds) => some ds
  | .val (.tuple ds) => some ds
  | .own os => vals os
  | _ => none
/-- a temporary, a frozen slot, or a held one -/
@[simp] def still : Opd → Env → Option O
  | .tmp o, _ => some o
  | .slot i, env => match env[i]? with
    | some (.wr (.val d)) => some (.val d)
    | some (.rd o) => some o
    | _ => none
@[simp] def mItems (m : ME) : MI := fun env => (m env).bind fun r => (still r.1 r.2).bind fun o => (itemsO o).bind fun ds => some (ds, r.2)
theorem still_look {p : Opd} {env : Env} {o : O} (h : still p env = some o) : look p env = some o := by
  cases p with
  | tmp q => exact h
  | slot i =>
    simp only [still] at h
    simp only [look]
    split at h
    · rename_i d e; rw [e]; exact h
    · rename_i d e; rw [e]; exact h
    · cases h
/-- the operand's own object stands still -/
theorem still_at {K : PySem.W.Frag} {P : Pt} {G H : Hp} {σ : L2.St} {env : Env} {fp : Fp} {v : V} {p : Opd} {B : List Addr} {o : O} (k : Ok K P G H σ env fp) (t : Tps K P G H σ (Own env fp) [v] [p] B) (h : still p env = some o) : ∃ C, Ro K G H v o C ∧ ∀ a ∈ C, ¬ Own env fp a := by
  cases p with
  | tmp q =>
    cases h
    obtain ⟨B1, C, rfl, r, _⟩ := t.uncons
    exact ⟨B1, r, fun a ha => (t.off a (List.mem_append_left _ ha)).1⟩
  | slot i =>
    obtain ⟨hv, _⟩ := t.uncons'
    simp only [still] at h
    split at h
    · rename_i d e
      cases h
      obtain ⟨v', h1, r⟩ := k.wr i _ e
      rw [hv] at h1; cases h1
      obtain ⟨r, _⟩ := ro_val_inv r
      exact ⟨[], .val r, fun _ z => nomatch z⟩
    · rename_i q e
      cases h
      obtain ⟨v', h1, r⟩ := k.rd i _ e
      rw [hv] at h1; cases h1
      refine ⟨fp i, r, fun a ha ⟨j, q', e', ha'⟩ => k.free j q' a e' ha' ⟨i, k.prot i _ a e ha⟩⟩
    · cases h
/-- what is read: a list, or a tuple, at a, of ds; Z stands still -/
theorem items_at {K : PySem.W.Frag} {G H : Hp} {v : V} {o : O} {C : List Addr} {ds : List D} (r : Ro K G H v o C) (h : itemsO o = some ds) : ∃ (a : Addr) (vs : List V) (Z : List Addr), v = .ref a ∧ (∀ b ∈ Z, b ∈ C) ∧ (∀ b ∈ Z, ∃ u, H b = some u) ∧ DqAll K G vs ds ∧
    ((∀ G' H', Sub G G' → Sub G' H' → (∀ b ∈ Z, H' b = H b) → SqL K H' a vs) ∨ (∀ G' H', Sub G G' → Sub G' H' → (∀ b ∈ Z, H' b = H b) → SqT K H' a vs)) := by
  cases r with
  | val r =>
    cases r with
    | lst h1 h2 => cases h; exact ⟨_, _, [], rfl, fun _ z => (nomatch z), fun _ z => (nomatch z), h2, .inl fun G' H' g g' _ => (sqk_mono (g.trans g') h1).l⟩
    | tup h1 h2 => cases h; exact ⟨_, _, [], rfl, fun _ z => (nomatch z), fun _ z => (nomatch z), h2, .inr fun G' H' g g' _ => sqt_mono (g.trans g') h1⟩
    | _ => cases h
  | @own a vs os A h1 h2 =>
    simp only [itemsO] at h
    obtain rfl := vals_eq h
    obtain ⟨dp, rfl⟩ := ros_vals h2
    exact ⟨a, vs, [a], rfl, fun b hb => hb, fun b hb => (by rcases List.mem_singleton.mp hb with rfl; exact ⟨_, h1⟩), dp, .inl fun G' H' g g' k => SqL.of (by rw [k a (by simp)]; exact h1)⟩
  | odic => cases h
theorem dps_get {K : PySem.W.Frag} {G : Hp} : ∀ {ds : List D} {vs : List V} {i : Nat} {d : D}, DqAll K G vs ds → ds[i]? = some d → ∃ v, vs[i]? = some v ∧ Dq K G v d
  | [], vs, i, d, h, e => by simp at e
  | d' :: ds, vs, 0, d, h, e => by cases h with | cons h1 h2 => simp at e; subst e; exact ⟨_, rfl, h1⟩
  | d' :: ds, vs, i + 1, d, h, e => by cases h with | cons h1 h2 => exact dps_get (i := i) h2 (by simpa using e)
theorem src_list {K : PySem.W.Frag} {G H : Hp} {a : Addr} {vs : List V} {ds : List D} {Z : List Addr} (dp : DqAll K G vs ds) (hz : ∀ b ∈ Z, ∃ u, H b = some u) (st : ∀ G' H', Sub G G' → Sub G' H' → (∀ b ∈ Z, H' b = H b) → SqL K H' a vs) : Src K (Itl K a) ds Z G H where
  go := fun i G' H' g g' k d hd => by
    obtain ⟨v, hv, r⟩ := dps_get dp hd
    have q := st G' H' g g' k
    refine ⟨⟨vs, v, q, hv⟩, fun x H'' ⟨e, y⟩ => ⟨G', (by rw [e]; exact Ext.refl g'), ?_⟩⟩
    have e2 := y vs q
    rw [hv] at e2; cases e2
    exact dp_mono g _ _ r
  stop := fun i G' H' g g' k hl => ⟨vs, st G' H' g g' k, by rw [dps_len dp]; exact hl⟩
  has := hz
theorem src_tup {K : PySem.W.Frag} {G H : Hp} {a : Addr} {vs : List V} {ds : List D} {Z : List Addr} (dp : DqAll K G vs ds) (hz : ∀ b ∈ Z, ∃ u, H b = some u) (st : ∀ G' H', Sub G G' → Sub G' H' → (∀ b ∈ Z, H' b = H b) → SqT K H' a vs) : Src K (Itt K a) ds Z G H where
  go := fun i G' H' g g' k d hd => by
    obtain ⟨v, hv, r⟩ := dps_get dp hd
    have q := st G' H' g g' k
    refine ⟨⟨vs, v, q, hv⟩, fun x H'' ⟨e, y⟩ => ⟨G', (by rw [e]; exact Ext.refl g'), ?_⟩⟩
    have e2 := y vs q
    rw [hv] at e2; cases e2
    exact dp_mono g _ _ r
  stop := fun i G' H' g g' k hl => ⟨vs, st G' H' g g' k, by rw [dps_len dp]; exact hl⟩
  has := hz
/-- a list or a tuple -/
def iSeq (K : PySem.W.Frag) (tl : TE) : TI := fun σ H R => tl σ H fun x H1 => ∃ a, x = .ref a ∧ (((∃ xs, SqL K H1 a xs) ∧ R (Itl K a) H1) ∨ ((∃ xs, SqT K H1 a xs) ∧ R (Itt K a) H1))
theorem pi_seq {l : Expr} {tl : TE} (hl : PE X l tl) : PI X tg l (iSeq X.K tl) := by
  refine ⟨fun pins s σ H R I h => ?_⟩
  refine thn (hl.run pins s σ H _ I h) fun v s1 ⟨x, H1, I1, r1, q1⟩ => ?_
  obtain ⟨a, rfl, q1⟩ := q1
  rcases q1 with ⟨⟨xs, hq⟩, q⟩ | ⟨⟨xs, hq⟩, q⟩
  · cases r1
    obtain ⟨its, rv, pl, hz⟩ := I1.list hq
    refine wpAny_pyIter_list pl.isList ?_
    refine ⟨s1.heap.objs.size, [s1.heap.objs.size], _, _, H1, rfl, I1.kept (t' := s1.toks) (fun b o e => Heap.get?_push_of_some _ e), turn_list a _, ⟨_, Heap.get?_push_size _ rfl, rfl, rfl⟩, ?_, q⟩
    intro b hb
    rcases List.mem_singleton.mp hb with rfl
    exact I1.fpOk (Nat.le_refl _) (I1.hok.fresh (Nat.le_refl _))
  · cases r1
    obtain ⟨its, rv, pl, hz⟩ := I1.tuple hq
    refine wpAny_pyIter_tuple (show s1.heap.IsTuple a its.toArray from pl) ?_
    refine ⟨s1.heap.objs.size, [s1.heap.objs.size], _, _, H1, rfl, I1.kept (t' := s1.toks) (fun b o e => Heap.get?_push_of_some _ e), turn_tuple a _, ⟨_, Heap.get?_push_size _ rfl, rfl, rfl⟩, ?_, q⟩
    intro b hb
    rcases List.mem_singleton.mp hb with rfl
    exact I1.fpOk (Nat.le_refl _) (I1.hok.fresh (Nat.le_refl _))
theorem vi_items {m : ME} (h : VE X iter m) : VI X tg iter (mItems m) := by
  refine PI.imp (pi_seq h) fun σ H R q => ?_
  obtain ⟨P, G, env, fp, ds, env', k, hm, c⟩ := q
  simp only [mItems, Option.bind_eq_some_iff] at hm
  obtain ⟨⟨p, e1⟩, z, o, z2, ds', z3, hm⟩ := hm
  cases hm
  refine ⟨P, G, env, fp, p, e1, k, z, fun v G1 H1 fp1 B s k1 t => ?_⟩
  obtain ⟨C, r, hC⟩ := still_at k1 t z2
  obtain ⟨a, vs, Z, rfl, hZ, hz, dp, st | st⟩ := items_at r z3
  · exact ⟨a, rfl, .inl ⟨⟨vs, st G1 H1 (Sub.refl _) k1.sub fun _ _ => rfl⟩, c _ G1 H1 fp1 Z (s.less fun _ h => .inl h) k1 (src_list dp hz st) fun b hb => hC b (hZ b hb)⟩⟩
  · exact ⟨a, rfl, .inr ⟨⟨vs, st G1 H1 (Sub.refl _) k1.sub fun _ _ => rfl⟩, c _ G1 H1 fp1 Z (s.less fun _ h => .inl h) k1 (src_tup dp hz st) fun b hb => hC b (hZ b hb)⟩⟩
/-- range -/
def rangeD (lo hi : Int) : List D := (List.range (hi - lo).toNat).map fun i => .int (lo + (i : Nat))
theorem src_range {K : PySem.W.Frag} {G H : Hp} {lo hi : Int} : Src K (Itr lo (hi - lo).toNat) (rangeD lo hi) [] G H where
  go := fun i G' H' g g' k d hd => by
    simp only [rangeD, List.getElem?_map, Option.map_eq_some_iff] at hd
    obtain ⟨j, hj, rfl⟩ := hd
    obtain ⟨h1, h2⟩ := List.getElem?_eq_some_iff.mp hj
    have h1' : i < (hi - lo).toNat := by simpa using h1
    simp at h2
    subst h2
    exact ⟨h1', fun x H'' ⟨e, y⟩ => ⟨G', (by rw [e]; exact Ext.refl g'), (by rw [y]; exact .int _)⟩⟩
  stop := fun i G' H' g g' k hl => (show (hi - lo).toNat ≤ i from by simpa only [rangeD, List.length_map, List.length_range] using hl)
  has := fun _ h => nomatch h
def small62 (i : Int) : Bool := decide (-(2 ^ 62) ≤ i) && decide (i < 2 ^ 62)
@[simp] def asInt : O → Option Int
  | .val (.int i) => some i
  | _ => none
theorem asInt_eq {o : O} {i : Int} (h : asInt o = some i) : o = .val (.int i) := by
  cases o with
  | val d => cases d <;> simp [asInt] at h; rw [h]
  | _ => simp [asInt] at h
theorem view_int {K : PySem.W.Frag} {G H : Hp} {v : V} {i : Int} (w : View K G H v (.val (.int i))) : v = .int i := by
  obtain ⟨B, r⟩ := w
  obtain ⟨r, _⟩ := ro_val_inv r
  cases r; rfl
@[simp] def mRange1 (m : MA) : MI := fun env => (m env).bind fun r => (looks r.1 r.2).bind fun os => match os with
  | [a] => (asInt a).bind fun i => if small62 i = true then some (rangeD 0 i, r.2) else none
  | _ => none
@[simp] def mRange2 (m : MA) : MI := fun env => (m env).bind fun r => (looks r.1 r.2).bind fun os => match os with
  | [a, b] => (asInt a).bind fun i => (asInt b).bind fun j => if (small62 i && small62 j) = true then some (rangeD i j, r.2) else none
  | _ => none
theorem vi_range1 {m : MA} (hg : Gl X "range") (hm : X.mg "range" = none) (ha : VA X [e] m) (hs : starEach [e] X.env = [(false, eval e X.env)] := by rfl) : VI X tg (.Call (.Name "range" p) [e] [] pos) (mRange1 m) := by
  refine PI.imp (pi_range1 hg hm ha hs) fun σ H R q => ?_
  obtain ⟨P, G, env, fp, ds, env', k, hm, c⟩ := q
  simp only [mRange1, Option.bind_eq_some_iff] at hm
  obtain ⟨⟨ps, e1⟩, z, os, z2, hm⟩ := hm
  split at hm
  · rename_i a
    simp only [Option.bind_eq_some_iff] at hm
    obtain ⟨i, hi, hm⟩ := hm
    obtain rfl := asInt_eq hi
    split at hm
    · rename_i hs
      cases hm
      simp only [small62, Bool.and_eq_true, decide_eq_true_eq] at hs
      refine ⟨P, G, env, fp, ps, _, k, z, fun vs G1 H1 fp1 B s k1 t => ?_⟩
      have w := t.rep.views k1 z2
      cases w with
      | cons w w2 =>
        cases w2
        rw [view_int w]
        have q := src_range (K := X.K) (G := G1) (H := H1) (lo := 0) (hi := i)
        rw [Int.sub_zero] at q
        exact ⟨i, rfl, hs.1, hs.2, c _ G1 H1 fp1 [] (s.less fun _ h => .inl h) k1 q fun _ z => nomatch z⟩
    · cases hm
  · cases hm
theorem vi_range2 {m : MA} (hg : Gl X "range") (hm : X.mg "range" = none) (ha : VA X [e, e2] m) (hs : starEach [e, e2] X.env = [(false, eval e X.env), (false, eval e2 X.env)] := by rfl) (hs2 : starEach [e2] X.env = [(false, eval e2 X.env)] := by rfl) :
    VI X tg (.Call (.Name "range" p) [e, e2] [] pos) (mRange2 m) := by
  refine PI.imp (pi_range2 hg hm ha hs hs2) fun σ H R q => ?_
  obtain ⟨P, G, env, fp, ds, env', k, hm, c⟩ := q
  simp only [mRange2, Option.bind_eq_some_iff] at hm
  obtain ⟨⟨ps, e1⟩, z, os, z2, hm⟩ := hm
  split at hm
  · rename_i a b
    simp only [Option.bind_eq_some_iff] at hm
    obtain ⟨i, hi, j, hj, hm⟩ := hm
    obtain rfl := asInt_eq hi
    obtain rfl := asInt_eq hj
    split at hm
    · rename_i hs
      cases hm
      simp only [small62, Bool.and_eq_true, decide_eq_true_eq] at hs
      refine ⟨P, G, env, fp, ps, _, k, z, fun vs G1 H1 fp1 B s k1 t => ?_⟩
      have w := t.rep.views k1 z2
      cases w with
      | cons w w2 =>
        cases w2 with
        | cons w' w3 =>
          cases w3
          rw [view_int w, view_int w']
          exact ⟨i, j, rfl, ⟨hs.1.1, hs.1.2, hs.2.1, hs.2.2⟩, c _ G1 H1 fp1 [] (s.less fun _ h => .inl h) k1 src_range fun _ z => nomatch z⟩
    · cases hm
  · cases hm

/-! ### while -/
/-- n turns at most -/
def whileN (t : MT) (body : MS) : Nat → Env → Option Ctl
  | 0, _ => none
  | n + 1, env => (t env).bind fun r => if r.1 = true then (body r.2).bind fun c => match c with
      | .nx e1 => whileN t body n e1
      | .ct e1 => whileN t body n e1
      | .bk e1 => some (.nx e1)
      | .rt o e1 => some (.rt o e1)
    else some (.nx r.2)
open Classical in
noncomputable def mWhile (t : MT) (body : MS) : MS := fun env => if h : ∃ c n, whileN t body n env = some c then some h.choose else none
theorem whileN_more {t : MT} {body : MS} : ∀ {n : Nat} {env : Env} {c : Ctl}, whileN t body n env = some c → whileN t body (n + 1) env = some c
  | 0, env, c, h => by cases h
  | n + 1, env, c, h => by
    unfold whileN at h ⊢
    simp only [Option.bind_eq_some_iff] at h ⊢
    obtain ⟨r, h1, h2⟩ := h
    refine ⟨r, h1, ?_⟩
    split at h2
    · rename_i hb
      rw [if_pos hb]
      simp only [Option.bind_eq_some_iff] at h2 ⊢
      obtain ⟨c1, h3, h4⟩ := h2
      refine ⟨c1, h3, ?_⟩
      cases c1 with
      | nx e1 => exact whileN_more h4
      | ct e1 => exact whileN_more h4
      | bk e1 => exact h4
      | rt o e1 => exact h4
    · rename_i hb
      rw [if_neg hb]; exact h2
theorem whileN_le {t : MT} {body : MS} {n m : Nat} {env : Env} {c : Ctl} (h : whileN t body n env = some c) (l : n ≤ m) : whileN t body m env = some c := by
  induction l with
  | refl => exact h
  | step _ ih => exact whileN_more ih
theorem mWhile_of {t : MT} {body : MS} {n : Nat} {env : Env} {c : Ctl} (h : whileN t body n env = some c) : mWhile t body env = some c := by
  have hx : ∃ c n, whileN t body n env = some c := ⟨c, n, h⟩
  unfold mWhile
  rw [dif_pos hx]
  obtain ⟨m, hm⟩ := hx.choose_spec
  have e1 := whileN_le hm (Nat.le_max_left m n)
  have e2 := whileN_le h (Nat.le_max_right m n)
  rw [e2] at e1
  exact e1.symm
theorem of_mWhile {t : MT} {body : MS} {env : Env} {c : Ctl} (h : mWhile t body env = some c) : ∃ n, whileN t body n env = some c := by
  unfold mWhile at h
  split at h
  · rename_i hx
    cases h
    exact hx.choose_spec
  · cases h
theorem vs_while {t : MT} {m : MS} (hp : PassesOwn (model X.prog X.w) X.A X.env X.xe) (hc : VT X c t) (hb : VSs X io body m) : VS X io (.While c body [] pos) (mWhile t m) := by
  refine PS.imp (ps_while hp hc hb) fun D σ H q => ?_
  obtain ⟨P, G, env, fp, c, k, hm, h⟩ := q
  obtain ⟨n0, hm⟩ := of_mWhile hm
  refine ⟨fun n σ' H' => ∃ G' env' fp', Aft X.K P io G H σ (Own env fp) env' G' H' σ' fp' ∧ whileN t m n env' = some c, ⟨n0, G, env, fp, .refl k, hm⟩, ?_⟩
  rintro n σ2 H2 ⟨G2, env2, fp2, a2, hw⟩
  cases n with
  | zero => cases hw
  | succ n =>
    simp only [whileN, Option.bind_eq_some_iff] at hw
    obtain ⟨⟨b, e3⟩, z, hw⟩ := hw
    refine ⟨P, G2, env2, fp2, b, e3, a2.ok, z, fun G3 H3 fp3 s3 k3 => ?_⟩
    have a3 := a2.trans (⟨s3, Kio.refl _ _, k3⟩ : Aft X.K P io G2 H2 σ2 (Own env2 fp2) e3 G3 H3 σ2 fp3)
    cases b with
    | false =>
      simp at hw
      subst hw
      dsimp only
      rw [if_neg (by decide)]
      exact h G3 H3 σ2 fp3 a3
    | true =>
      simp only [if_true, Option.bind_eq_some_iff] at hw
      obtain ⟨c1, z2, hw⟩ := hw
      dsimp only
      rw [if_pos rfl]
      refine ⟨fun σ' H' => ∃ m', m' < n + 1 ∧ ∃ G' env' fp', Aft X.K P io G H σ (Own env fp) env' G' H' σ' fp' ∧ whileN t m m' env' = some c, fun _ _ q => q, P, G3, e3, fp3, c1, k3, z2, ?_⟩
      cases c1 with
      | nx e4 => exact fun G4 H4 σ4 fp4 a4 => ⟨n, Nat.lt_succ_self _, G4, e4, fp4, a3.trans a4, hw⟩
      | ct e4 => exact fun G4 H4 σ4 fp4 a4 => ⟨n, Nat.lt_succ_self _, G4, e4, fp4, a3.trans a4, hw⟩
      | bk e4 =>
        cases hw
        exact fun G4 H4 σ4 fp4 a4 => h G4 H4 σ4 fp4 (a3.trans a4)
      | rt o e4 =>
        cases hw
        exact fun G4 H4 σ4 fp4 v B a4 => h G4 H4 σ4 fp4 v B (a3.transR a4)
end
end Pv

namespace Pv
open PySem PySem.Spec PyProof.Rows L2

/-! ### comprehensions -/
def wipeE (env : Env) : List Nat → Env
  | [] => env
  | v :: vs => (wipeE env vs).set v .emp
def isClean : Option Sl → Bool
  | some .emp => true
  | some (.wr (.val _)) => true
  | _ => false
/-- the slots vs as they were in e0 -/
def restE (e0 env : Env) : List Nat → Env
  | [] => env
  | v :: vs => (restE e0 env vs).set v ((e0[v]?).getD .emp)
def lcL (f : MG) (tt : MT) (te : ME) (tk : Opd → Env → Option (O × Env)) (vs : List Nat) : List D → List O → Env → Option (List O × Env)
  | [], acc, env => some (acc, env)
  | d :: ds, acc, env => (f d env).bind fun e1 => (tt e1).bind fun r => if r.1 = true then (te r.2).bind fun s => (tk s.1 s.2).bind fun q => if acc.length < sizeLine then lcL f tt te tk vs ds (acc ++ [q.1]) (wipeE q.2 vs) else none
      else lcL f tt te tk vs ds acc (wipeE r.2 vs)
def mComp (src : MI) (f : MG) (tt : MT) (te : ME) (tk : Opd → Env → Option (O × Env)) (vs : List Nat) : ME := fun env => (src env).bind fun r => if vs.all (fun v => isClean (r.2[v]?)) = true then
    (lcL f tt te tk vs r.1 [] (wipeE r.2 vs)).bind fun s => some (.tmp (.own s.1), restE r.2 s.2 vs) else none

theorem wipe_get : ∀ {σ : L2.St} {vs : List Nat} {i : Nat}, i < σ.length → (wipe σ vs)[i]? = if i ∈ vs then some none else σ[i]?
  | σ, [], i, h => by simp [wipe]
  | σ, v :: vs, i, h => by
    unfold wipe
    by_cases e : v = i
    · subst e
      rw [List.getElem?_set_self (by rw [wipe_length]; exact h)]
      simp
    · rw [List.getElem?_set_ne e, wipe_get h]
      have : (i ∈ v :: vs) ↔ i ∈ vs := by simp [Ne.symm e]
      by_cases m : i ∈ vs
      · simp [m]
      · simp [m, Ne.symm e]
theorem wipe_out {σ : L2.St} {vs : List Nat} {i : Nat} (h : σ.length ≤ i) : (wipe σ vs)[i]? = none := by
  rw [List.getElem?_eq_none_iff, wipe_length]; exact h
theorem wipe_ext {σ σ2 : L2.St} {vs : List Nat} (hl : σ2.length = σ.length) (h : ∀ i, i ∉ vs → σ2[i]? = (wipe σ vs)[i]?) : wipe σ2 vs = wipe σ vs := by
  apply List.ext_getElem?
  intro i
  by_cases hi : i < σ.length
  · rw [wipe_get (by rw [hl]; exact hi)]
    by_cases m : i ∈ vs
    · rw [wipe_get hi]; simp [m]
    · rw [if_neg m]; exact h i m
  · rw [wipe_out (by omega), wipe_out (by omega)]

section
variable {K : PySem.W.Frag} {P : Pt} {G H G' H' : Hp} {σ : L2.St} {env env' : Env} {fp : Fp} {A A' : AS} {B : List Addr}
theorem Stp.frame (s : Stp G H A G' H' A') (B : AS) : Stp G H (fun a => A a ∨ B a) G' H' (fun a => A' a ∨ B a) :=
  ⟨s.ge, fun a o h n => s.keep a o h fun q => n (.inl q), fun a h => h.elim (fun q => (s.own a q).imp .inl id) fun q => .inl (.inr q), fun a o h => (s.frz a o h).imp id fun q => q.imp .inl id⟩
theorem Ok.dropS (k : Ok K P G H σ env fp) (i : Nat) (x : Option V) : Ok K P G H (σ.set i x) (env.set i .emp) fp := by
  have q := k.drop i
  have key : ∀ {j : Nat} {y : Sl}, (env.set i .emp)[j]? = some y → y ≠ .emp → j ≠ i := fun {j y} e n h => by
    subst h
    rw [List.getElem?_set] at e
    simp at e
    exact n e.2.symm
  refine ⟨by rw [List.length_set]; exact q.len, fun j o e => ?_, fun j o e => ?_, q.sub, q.nd, q.off, q.apart, q.prot, q.free, q.there⟩
  · rw [List.getElem?_set_ne (Ne.symm (key e (by simp)))]; exact q.wr j o e
  · rw [List.getElem?_set_ne (Ne.symm (key e (by simp)))]; exact q.rd j o e
theorem Ok.wipes (k : Ok K P G H σ env fp) : ∀ vs : List Nat, Ok K P G H (wipe σ vs) (wipeE env vs) fp
  | [] => k
  | v :: vs => (k.wipes vs).dropS v none
theorem own_wipe {a : Addr} : ∀ {vs : List Nat}, Own (wipeE env vs) fp a → Own env fp a
  | [], h => h
  | v :: vs, h => own_wipe (own_drop h)
/-- a temporary changes -/
theorem Ok.updT (k : Ok K P G H σ env fp) {p : Addr} {u : HO} (n : ¬ Own env fp p ∧ G p = none ∧ ¬ Pr P p) : Ok K P G (upd H p u) σ env fp where
  len := k.len
  wr := fun i o e => let ⟨v, h1, h2⟩ := k.wr i o e; ⟨v, h1, ro_mono (Sub.refl _) _ _ _ (fun a ha => upd_ne fun h => n.1 ⟨i, o, e, by rw [← h]; exact ha⟩) h2⟩
  rd := fun i o e => let ⟨v, h1, h2⟩ := k.rd i o e; ⟨v, h1, ro_mono (Sub.refl _) _ _ _ (fun a ha => upd_ne fun h => n.2.2 ⟨i, by rw [← h]; exact k.prot i o a e ha⟩) h2⟩
  sub := fun a o e => by rw [upd_ne fun h => by rw [h, n.2.1] at e; cases e]; exact k.sub a o e
  nd := k.nd
  off := k.off
  apart := k.apart
  prot := k.prot
  free := k.free
  there := fun a h => by rw [upd_ne fun q => n.2.2 (by rw [← q]; exact h)]; exact k.there a h
theorem stp_updT {p : Addr} {u : HO} (hp : A p) (h : ∀ a, A' a → A a) : Stp G H A G (upd H p u) A' :=
  ⟨Sub.refl _, fun a o e n => by rw [upd_ne fun q => n (by rw [q]; exact hp)]; exact e, fun a q => .inl (h a q), fun _ _ q => .inl q⟩
theorem restE_len {e0 env : Env} : ∀ {vs : List Nat}, (restE e0 env vs).length = env.length
  | [] => rfl
  | v :: vs => by unfold restE; rw [List.length_set, restE_len]
theorem restE_get {e0 env : Env} : ∀ {vs : List Nat} {i : Nat}, i < env.length → (restE e0 env vs)[i]? = if i ∈ vs then some ((e0[i]?).getD .emp) else env[i]?
  | [], i, h => by simp [restE]
  | v :: vs, i, h => by
    unfold restE
    by_cases e : v = i
    · subst e
      rw [List.getElem?_set_self (by rw [restE_len]; exact h)]
      simp
    · rw [List.getElem?_set_ne e, restE_get h]
      by_cases m : i ∈ vs
      · simp [m]
      · simp [m, Ne.symm e]
theorem Ok.rest {e0 : Env} {G0 H0 : Hp} {fp0 : Fp} {vs : List Nat} (k0 : Ok K P G0 H0 σ e0 fp0) (ge : Sub G0 G) (cl : vs.all (fun v => isClean (e0[v]?)) = true) (k : Ok K P G H (wipe σ vs) env fp) :
    Ok K P G H σ (restE e0 env vs) (fun i => if i ∈ vs then [] else fp i) ∧ ∀ a, Own (restE e0 env vs) (fun i => if i ∈ vs then [] else fp i) a → Own env fp a := by
  have hl : σ.length = env.length := by rw [← k.len, wipe_length]
  have cl' : ∀ i ∈ vs, isClean (e0[i]?) = true := fun i hi => List.all_eq_true.mp cl i hi
  have key : ∀ {i : Nat} {x : Sl}, (restE e0 env vs)[i]? = some x → (i ∈ vs ∧ ((x = .emp) ∨ ∃ d, x = .wr (.val d) ∧ e0[i]? = some (.wr (.val d)))) ∨ (i ∉ vs ∧ env[i]? = some x ∧ (wipe σ vs)[i]? = σ[i]?) := fun {i x} e => by
    have hi : i < env.length := by
      have := (List.getElem?_eq_some_iff.mp e).1
      rw [restE_len] at this; exact this
    rw [restE_get hi] at e
    by_cases m : i ∈ vs
    · rw [if_pos m] at e
      refine .inl ⟨m, ?_⟩
      have c := cl' i m
      cases q : e0[i]? with
      | none => rw [q] at c; cases c
      | some y =>
        rw [q] at c e
        cases y with
        | emp => cases e; exact .inl rfl
        | wr o =>
          cases o with
          | val d => cases e; exact .inr ⟨d, rfl, rfl⟩
          | own _ => cases c
          | odic _ => cases c
        | rd o => cases c
    · rw [if_neg m] at e
      exact .inr ⟨m, e, by rw [wipe_get (by rw [hl]; exact hi), if_neg m]⟩
  refine ⟨⟨by rw [restE_len]; exact hl, fun i o e => ?_, fun i o e => ?_, k.sub, fun i o e => ?_, fun i o a e ha => ?_, fun i j o q a hn e e' ha ha' => ?_, fun i o a e ha => ?_, fun i o a e ha => ?_, k.there⟩, fun a ⟨i, o, e, ha⟩ => ?_⟩
  · rcases key e with ⟨m, h | ⟨d, h, h0⟩⟩ | ⟨m, h, hs⟩
    · cases h
    · cases h
      obtain ⟨v, hv, r⟩ := k0.wr i _ h0
      obtain ⟨r, _⟩ := ro_val_inv r
      refine ⟨v, hv, ?_⟩
      show Ro K G H v _ (if i ∈ vs then [] else fp i)
      rw [if_pos m]
      exact .val (dp_mono ge _ _ r)
    · show ∃ v, _ ∧ Ro K G H v o (if i ∈ vs then [] else fp i)
      rw [if_neg m, ← hs]
      exact k.wr i o h
  · rcases key e with ⟨m, h | ⟨d, h, h0⟩⟩ | ⟨m, h, hs⟩
    · cases h
    · cases h
    · show ∃ v, _ ∧ Ro K G H v o (if i ∈ vs then [] else fp i)
      rw [if_neg m, ← hs]
      exact k.rd i o h
  all_goals (try dsimp only at *)
  · rcases key e with ⟨m, h | ⟨d, h, h0⟩⟩ | ⟨m, h, hs⟩
    · cases h
    · rw [if_pos m]; exact List.nodup_nil
    · rw [if_neg m]; exact k.nd i o h
  · rcases key e with ⟨m, h⟩ | ⟨m, h, hs⟩
    · rw [if_pos m] at ha; cases ha
    · rw [if_neg m] at ha; exact k.off i o a h ha
  · rcases key e with ⟨m, h⟩ | ⟨m, h, hs⟩
    · rw [if_pos m] at ha; cases ha
    · rcases key e' with ⟨m', h'⟩ | ⟨m', h', hs'⟩
      · rw [if_pos m'] at ha'; cases ha'
      · rw [if_neg m] at ha; rw [if_neg m'] at ha'
        exact k.apart i j o q a hn h h' ha ha'
  · rcases key e with ⟨m, h⟩ | ⟨m, h, hs⟩
    · rw [if_pos m] at ha; cases ha
    · rw [if_neg m] at ha; exact k.prot i o a h ha
  · rcases key e with ⟨m, h⟩ | ⟨m, h, hs⟩
    · rw [if_pos m] at ha; cases ha
    · rw [if_neg m] at ha; exact k.free i o a h ha
  · rcases key e with ⟨m, h⟩ | ⟨m, h, hs⟩
    · rw [if_pos m] at ha; cases ha
    · rw [if_neg m] at ha; exact ⟨i, o, h, ha⟩
end
theorem ros_snoc {K : PySem.W.Frag} {G H : Hp} {v : V} {o : O} {B : List Addr} : ∀ {os : List O} {vs : List V} {A : List Addr}, Ros K G H vs os A → Ro K G H v o B → Ros K G H (vs ++ [v]) (os ++ [o]) (A ++ B)
  | [], vs, A, h, r => by
    cases h
    have q := Ros.cons r (Ros.nil (K := K) (G := G) (H := H))
    rw [List.append_nil] at q
    exact q
  | o' :: os, vs, A, h, r => by
    cases h with
    | cons h1 h2 =>
      rw [List.append_assoc]
      exact .cons h1 (ros_snoc h2 r)
def outIO (vs : List Nat) : IO := fun i => !vs.contains i
theorem wipe_kio {σ σ2 : L2.St} {vs : List Nat} (h : Kio (outIO vs) (wipe σ vs) σ2) : wipe σ2 vs = wipe σ vs :=
  wipe_ext (h.1.trans (wipe_length _ _)) fun i hi => h.2 i (by simp [outIO, hi])
abbrev VTs (X : Cx) (ifs : List Expr) (m : MT) : Prop := PTs X ifs (tBt X.K m)
@[simp] def mYes : MT := fun env => some (true, env)
section
variable {X : Cx} {elt tg iter c : Expr} {ifs : List Expr} {scope : Scope} {own : List (Str × Nat)} {pos : Pos}
theorem PTs.imp {t t' : TT} (p : PTs X ifs t) (h : ∀ σ H Q, t' σ H Q → t σ H Q) : PTs X ifs t' := ⟨fun pins s σ H Q I q => p.run pins s σ H Q I (h σ H Q q)⟩
theorem vts_nil : VTs X [] mYes := by
  refine PTs.imp pts_nil fun σ H Q q => ?_
  obtain ⟨P, G, env, fp, b, env', k, hm, c⟩ := q
  cases hm
  exact c G H fp (Stp.refl _ _ _) k
theorem vts_one {m : MT} (h : VT X c m) : VTs X [c] m := pts_one h
/-- the reading of a comprehension -/
theorem lc_seq {K : PySem.W.Frag} {src : MI} {f : MG} {tt : MT} {te : ME} {tk : Opd → Env → Option (O × Env)} (tok : TakeOk tk) {vs : List Nat} {σ : L2.St} {H : Hp} {Q : VK} (q : tN K (mComp src f tt te tk vs) σ H Q) :
    tLc (tI K src) (tG K (outIO vs) f) (tBt K tt) (tN K te) vs σ H Q := by
  obtain ⟨P, G, env, fp, p, env', k, hm, h⟩ := q
  simp only [mComp, Option.bind_eq_some_iff] at hm
  obtain ⟨⟨ds, e1⟩, z, hm⟩ := hm
  split at hm
  case isFalse => cases hm
  case isTrue cl =>
  simp only [Option.bind_eq_some_iff] at hm
  obtain ⟨⟨res, eZ⟩, zr, hm⟩ := hm
  cases hm
  refine ⟨P, G, env, fp, ds, e1, k, z, fun J G1 H1 fp1 Z s1 k1 src1 hZ D nD => ?_⟩
  have hDZ : D ∉ Z := fun hz => by obtain ⟨u, e⟩ := src1.has D hz; rw [nD] at e; cases e
  have nO := k1.newOff nD
  have k1u : Ok K P G1 (upd H1 D (.lst [])) (wipe σ vs) (wipeE e1 vs) fp1 := (k1.wipes vs).updT ⟨fun q => nO.1 (own_wipe q), nO.2⟩
  have s0 : Stp G1 H1 (Own e1 fp1) G1 (upd H1 D (.lst [])) (fun a => Own (wipeE e1 vs) fp1 a ∨ a ∈ [D]) :=
    ⟨Sub.refl _, fun a o e _ => by rw [upd_ne (ne_of_none e nD)]; exact e, fun a q => q.elim (fun q => .inl (own_wipe q)) fun q => .inr (by rw [List.mem_singleton.mp q]; exact nD), fun _ _ q => .inl q⟩
  obtain ⟨src0, hZ0⟩ := src1.step s0 hZ
  have t0 : Tps K P G1 (upd H1 D (.lst [])) σ (Own (wipeE e1 vs) fp1) [.ref D] [.tmp (.own [])] [D] := by
    refine ⟨by have r := Reps.tmp (σ := σ) (Ro.own (K := K) (G := G1) (upd_same (H := H1) (a := D) (o := .lst [])) .nil) .nil; exact r, by simp, fun a ha => ?_⟩
    rcases List.mem_singleton.mp ha with rfl
    exact ⟨fun q => nO.1 (own_wipe q), nO.2⟩
  refine ⟨fun i n H' => n = ds.length - i ∧ i ≤ ds.length ∧ ∃ G' env' fp' acc B, Stp G1 H1 (Own e1 fp1) G' H' (fun a => Own env' fp' a ∨ a ∈ B) ∧ Ok K P G' H' (wipe σ vs) env' fp' ∧ Tps K P G' H' σ (Own env' fp') [.ref D] [.tmp (.own acc)] B ∧ D ∈ B ∧
      lcL f tt te tk vs (ds.drop i) acc env' = some (res, eZ) ∧ Src K J ds Z G' H' ∧ ∀ a ∈ Z, ¬ (Own env' fp' a ∨ a ∈ B), ⟨ds.length, by simp, Nat.zero_le _, G1, wipeE e1 vs, fp1, [], [D], s0, k1u, t0, by simp, by simpa using zr, src0, hZ0⟩, ?_⟩
  rintro i n H2 ⟨rfl, hi, G2, env2, fp2, acc, B, s2, k2, t2, hD2, hf, src2, hZ2⟩
  by_cases hl : i < ds.length
  · refine .inr ?_
    have hd : ds[i]? = some ds[i] := by simp [hl]
    rw [List.drop_eq_getElem_cons hl] at hf
    simp only [lcL, Option.bind_eq_some_iff] at hf
    obtain ⟨env3, z3, ⟨b, env4⟩, z4, hf⟩ := hf
    obtain ⟨go, yl⟩ := src2.go i G2 H2 (Sub.refl _) k2.sub (fun _ _ => rfl) _ hd
    refine ⟨go, fun H' => ∃ m', m' < ds.length - i ∧ (m' = ds.length - (i + 1) ∧ i + 1 ≤ ds.length ∧ ∃ G' env' fp' acc B, Stp G1 H1 (Own e1 fp1) G' H' (fun a => Own env' fp' a ∨ a ∈ B) ∧ Ok K P G' H' (wipe σ vs) env' fp' ∧ Tps K P G' H' σ (Own env' fp') [.ref D] [.tmp (.own acc)] B ∧ D ∈ B ∧
      lcL f tt te tk vs (ds.drop (i + 1)) acc env' = some (res, eZ) ∧ Src K J ds Z G' H' ∧ ∀ a ∈ Z, ¬ (Own env' fp' a ∨ a ∈ B)), fun _ q => q, fun x H3 y => ?_⟩
    obtain ⟨G3, ext, dx⟩ := yl x H3 y
    have k3 := k2.ext ext
    have s3 := (k2.extStp ext).less (A2 := Own env2 fp2) fun _ h => .inl h
    refine ⟨P, G3, env2, fp2, _, env3, k3, dx, z3, fun σ4 fp4 a4 => ⟨wipe_kio a4.kio, ?_⟩⟩
    refine ⟨P, G3, env3, fp4, b, env4, a4.ok, z4, fun G5 H5 fp5 s5 k5 => ?_⟩
    have s25 : Stp G2 H2 (Own env2 fp2) G5 H5 (Own env4 fp5) := (s3.trans a4.stp).trans s5
    have hk : wipe σ4 vs = wipe σ vs := wipe_kio a4.kio
    cases b with
    | false =>
      simp only [Bool.false_eq_true, if_false] at hf ⊢
      have s26 := (s25.less (A2 := Own (wipeE env4 vs) fp5) fun _ h => own_wipe h)
      have t6 := t2.step s26
      have s6 := s26.frame (fun a => a ∈ B)
      obtain ⟨src6, hZ6⟩ := src2.step s6 hZ2
      refine ⟨_, by omega, rfl, hl, G5, wipeE env4 vs, fp5, acc, B, s2.trans s6, ?_, t6, hD2, hf, src6, hZ6⟩
      rw [← hk]; exact k5.wipes vs
    | true =>
      simp only [if_true, Option.bind_eq_some_iff] at hf ⊢
      obtain ⟨⟨p, env6⟩, z6, ⟨o, env7⟩, z7, hf⟩ := hf
      split at hf
      case isFalse => cases hf
      case isTrue hz =>
      refine ⟨P, G5, env4, fp5, p, env6, k5, z6, fun yv G6 H6 fp6 B6 s6 k6 t6 => ?_⟩
      obtain ⟨G7, fp7, B1, C, x7⟩ := tok k6 t6 z7
      have s7 : Stp G6 H6 (fun a => Own env6 fp6 a ∨ a ∈ B6) G7 H6 (fun a => Own env7 fp7 a ∨ a ∈ B1) := ⟨x7.ge, fun _ _ h _ => h, fun a h => h.elim (fun h => .inl (.inl (x7.own a h))) fun h => .inl ((x7.sub a (.inl h)).symm), fun a u h => (x7.frz a u h).imp id .inl⟩
      have s27 : Stp G2 H2 (Own env2 fp2) G7 H6 (fun a => Own env7 fp7 a ∨ a ∈ B1) := (s25.trans s6).trans s7
      have t7 := t2.step s27
      -- the new list, as it stands
      obtain ⟨B2, C2, eB, r7, _⟩ := t7.uncons
      have hr := t7.rep
      obtain ⟨accV, hDl, ros7, eB2⟩ : ∃ accV, H6 D = some (.lst accV) ∧ (∃ C3, Ros K G7 H6 accV acc C3 ∧ B = D :: C3) ∧ True := by
        cases hr with
        | tmp hr hn =>
          cases hn
          cases hr with
          | own h1 h2 => exact ⟨_, h1, ⟨_, h2, by rw [List.append_nil]⟩, trivial⟩
      obtain ⟨C3, ros7, rfl⟩ := ros7
      have ndB := t7.nd
      have offD := t7.off D (by simp)
      have hDC : D ∉ C3 := (List.nodup_cons.mp ndB).1
      have hDB1 : D ∉ B1 := fun q => offD.1 (.inr q)
      refine ⟨accV, hDl, by rw [ros_len ros7]; exact hz, ?_⟩
      have ku : Ok K P G7 (upd H6 D (.lst (accV ++ [yv]))) (wipe σ vs) (wipeE env7 vs) fp7 := by
        rw [← hk]
        exact (x7.ok.wipes vs).updT ⟨fun q => offD.1 (.inl (own_wipe q)), offD.2.1, offD.2.2⟩
      have s27' := s27.frame (fun a => a ∈ D :: C3)
      have s78 : Stp G7 H6 (fun a => (Own env7 fp7 a ∨ a ∈ B1) ∨ a ∈ D :: C3) G7 (upd H6 D (.lst (accV ++ [yv]))) (fun a => Own (wipeE env7 vs) fp7 a ∨ a ∈ D :: (C3 ++ B1)) := by
        refine stp_updT (.inr (by simp)) fun a h => ?_
        rcases h with h | h
        · exact .inl (.inl (own_wipe h))
        · rcases List.mem_cons.mp h with h | h
          · exact .inr (by simp [h])
          · rcases List.mem_append.mp h with h | h
            · exact .inr (by simp [h])
            · exact .inl (.inr h)
      have s28 := s27'.trans s78
      obtain ⟨src8, hZ8⟩ := src2.step s28 hZ2
      have rosAll : Ros K G7 (upd H6 D (.lst (accV ++ [yv]))) (accV ++ [yv]) (acc ++ [o]) (C3 ++ B1) := by
        have a1 : Ros K G7 (upd H6 D (.lst (accV ++ [yv]))) accV acc C3 := ros_mono (Sub.refl _) _ _ _ (fun a ha => upd_ne fun h => hDC (by rw [← h]; exact ha)) ros7
        have a2 : Ro K G7 (upd H6 D (.lst (accV ++ [yv]))) yv o B1 := ro_mono (Sub.refl _) _ _ _ (fun a ha => upd_ne fun h => hDB1 (by rw [← h]; exact ha)) x7.ro
        exact ros_snoc a1 a2
      refine ⟨_, by omega, rfl, hl, G7, wipeE env7 vs, fp7, acc ++ [o], D :: (C3 ++ B1), s2.trans s28, ku, ⟨?_, ?_, fun a ha => ?_⟩, by simp, hf, src8, hZ8⟩
      · have r := Reps.tmp (σ := σ) (Ro.own (upd_same (H := H6) (a := D) (o := .lst (accV ++ [yv]))) rosAll) .nil
        rw [List.append_nil] at r
        exact r
      · refine List.nodup_cons.mpr ⟨fun h => (List.mem_append.mp h).elim hDC hDB1, List.nodup_append.mpr ⟨(List.nodup_cons.mp ndB).2, x7.nd, fun a ha b hb e => ?_⟩⟩
        subst e
        exact (t7.off a (List.mem_cons_of_mem _ ha)).1 (.inr hb)
      · have base : a ∈ D :: C3 ∨ a ∈ B1 := by
          rcases List.mem_cons.mp ha with h | h
          · exact .inl (by simp [h])
          · exact (List.mem_append.mp h).imp (fun h => List.mem_cons_of_mem _ h) id
        rcases base with h | h
        · obtain ⟨n1, n2⟩ := t7.off a h
          exact ⟨fun q => n1 (.inl (own_wipe q)), n2⟩
        · obtain ⟨n1, n2, n3, _⟩ := x7.off a h
          exact ⟨fun q => n1 (own_wipe q), n2, n3⟩
  · have hi : i = ds.length := by omega
    subst hi
    simp only [List.drop_length, lcL] at hf
    cases hf
    refine .inl ⟨src2.stop _ G2 H2 (Sub.refl _) k2.sub (fun _ _ => rfl) (Nat.le_refl _), ?_⟩
    obtain ⟨kr, ko⟩ := Ok.rest k1 s2.ge cl k2
    refine h (.ref D) G2 H2 _ B ?_ kr (t2.weak ko)
    exact (s1.trans s2).less fun a q => q.imp (ko a) id
theorem ve_lc {src : MI} {f : MG} {tt : MT} {te : ME} {tk : Opd → Env → Option (O × Env)} (tok : TakeOk tk) (hc : X.calm = true) (hN : X.N.Nodup) (hi : VI X tg iter src) (ok : BlkOk X.N X.env.scope scope own)
    (hg : ∀ (s : Shared) (H : Hp) (C : Addr) (cl : List (Str × Addr)) (fp : List Addr), VG (X.blk s H scope (compEnvC scope cl C X.env) fp) (outIO (own.map (·.2))) tg f)
    (ht : ∀ (s : Shared) (H : Hp) (C : Addr) (cl : List (Str × Addr)) (fp : List Addr), VTs (X.blk s H scope (compEnvC scope cl C X.env) fp) ifs tt)
    (he : ∀ (s : Shared) (H : Hp) (C : Addr) (cl : List (Str × Addr)) (fp : List Addr), VE (X.blk s H scope (compEnvC scope cl C X.env) fp) elt te) (hs : ∀ x, foldedSetIterable iter X.env x = pure x := by intro _; rfl) :
    VE X (.ListComp elt [⟨tg, iter, ifs, 0⟩] scope pos) (mComp src f tt te tk (own.map (·.2))) :=
  PE.imp (pe_lc hc hN hi ok hg ht he hs) fun _ _ _ q => lc_seq tok q
theorem vs_setLc {m' : ME} {src : MI} {f : MG} {tt : MT} {te : ME} {tk tk2 : Opd → Env → Option (O × Env)} {io : IO} {i : Nat} {y : Str} {py spos : Pos} (tok : TakeOk tk) (tok2 : TakeOk tk2) (hq : ∀ σ H Q, tN X.K m' σ H Q → tN X.K (mComp src f tt te tk (own.map (·.2))) σ H Q) (hio : io i = false) (hc : X.calm = true) (hN : X.N.Nodup) (hy : X.N[i]? = some y) (hyl : X.env.scope.names.lookup y = some .local)
    (hsw : swapsWith (.ListComp elt [⟨tg, iter, ifs, 0⟩] scope pos) (some (.Name y py)) spos.line X.env = pure true) (hi : VI X tg iter src) (ok : BlkOk X.N X.env.scope scope own)
    (hg : ∀ (s : Shared) (H : Hp) (C : Addr) (cl : List (Str × Addr)) (fp : List Addr), VG (X.blk s H scope (compEnvC scope cl C X.env) fp) (outIO (own.map (·.2))) tg f)
    (ht : ∀ (s : Shared) (H : Hp) (C : Addr) (cl : List (Str × Addr)) (fp : List Addr), VTs (X.blk s H scope (compEnvC scope cl C X.env) fp) ifs tt)
    (he : ∀ (s : Shared) (H : Hp) (C : Addr) (cl : List (Str × Addr)) (fp : List Addr), VE (X.blk s H scope (compEnvC scope cl C X.env) fp) elt te) (hs : ∀ x, foldedSetIterable iter X.env x = pure x := by intro _; rfl) :
    VS X io (.Assign [.Name y py] (.ListComp elt [⟨tg, iter, ifs, 0⟩] scope pos) spos) (mSet i tk2 m') := by
  refine PS.imp (ps_setLc (wi := tI X.K src) (g := tG X.K (outIO (own.map (·.2))) f) (tt := tBt X.K tt) (te := tN X.K te) hc hN hy hyl hsw hi ok hg ht he hs) fun D σ H q => ?_
  obtain ⟨P, G, env, fp, c, k, hm, h⟩ := q
  simp only [mSet, Option.bind_eq_some_iff] at hm
  obtain ⟨⟨p, e1⟩, z, ⟨o, e2⟩, z2, hm⟩ := hm
  split at hm
  · rename_i hl
    cases hm
    refine lc_seq tok (hq _ _ _ ⟨P, G, env, fp, p, e1, k, z, fun v G1 H1 fp1 B s k1 t => ?_⟩)
    obtain ⟨G2, fp2, a⟩ := store_tk tok2 hio k1 t z2 hl s
    exact h G2 H1 _ fp2 a
  · cases hm
end
end Pv

namespace Pv
open PySem PySem.Spec PyProof.Rows L2

/-! ### defs: a promise where no repr runs around -/
abbrev SpG := List V → Hp → VK → Prop
structure FnG (P : Program) (w : World) (K : PySem.W.Frag) (mg : Str → Option Value) (base : Heap) (k : Nat) (f : Addr) (fd : FuncData) (ps : List Str) (sp : SpG) : Prop where
  len : ∀ vs H Q, sp vs H Q → vs.length = ps.length
  run : ∀ (A : Around) (outer : List PySem.Env) (s : Shared) (H : Hp) (args : Args) (us : List Value) (vs : List V) (Q : VK), Room k A → A.guards = some [] →
    Env0 P w K mg base A outer s H → BindsTo s fd args (ps.zip us) → Vals vs us → sp vs H Q → codeAny (model P w) A (.call (.ref f) args) (CR CX0 outer P w H s Q E0) s
theorem FnG.mono {P : Program} {w : World} {K : PySem.W.Frag} {mg : Str → Option Value} {base : Heap} {j k : Nat} {f : Addr} {fd : FuncData} {ps : List Str} {sp : SpG} (F : FnG P w K mg base j f fd ps sp) (h : j ≤ k) : FnG P w K mg base k f fd ps sp :=
  ⟨F.len, fun A outer s H args us vs Q hr => F.run A outer s H args us vs Q (hr.mono h)⟩
theorem FnG.imp {P : Program} {w : World} {K : PySem.W.Frag} {mg : Str → Option Value} {base : Heap} {k : Nat} {f : Addr} {fd : FuncData} {ps : List Str} {sp sp' : SpG} (F : FnG P w K mg base k f fd ps sp) (h : ∀ vs H Q, sp' vs H Q → sp vs H Q) : FnG P w K mg base k f fd ps sp' :=
  ⟨fun vs H Q q => F.len vs H Q (h _ _ _ q), fun A outer s H args us vs Q hr hg he hb hv hs => F.run A outer s H args us vs Q hr hg he hb hv (h _ _ _ hs)⟩
section
variable {P : Program} {w : World} {K : PySem.W.Frag} {mg : Str → Option Value} {base : Heap}
/-- a def by its body -/
theorem FnG.of {x qual : Str} {st : Stmt} {f : Addr} {fd : FuncData} {N ps : List Str} {k : Nat} {sp : SpG} (F : Fun K x qual st f fd) (S : FnScope N ps (defScope st)) (len : ∀ vs H Q, sp vs H Q → vs.length = ps.length)
    (hbody : ∀ (cdv : Value) (A : Around) (outer : List PySem.Env) (s : Shared) (H : Hp) (vs : List V) (Q : VK), Room k (A.deeper (envOfC qual (defScope st) s.heap.objs.size f cdv)) → A.guards = some [] → sp vs H Q →
      ∃ t, PSs (cxOf CX0 P w K mg base N qual (defScope st) f cdv A outer s H E0).nox (defBody st) t ∧ t { nx := fun _ H' => Q .non H', rt := Q } (start N vs) H) : FnG P w K mg base (k + 1) f fd ps sp := by
  obtain ⟨oc, od, kV, doc, pm, an, cdv, ct, osl, rfl, lk, hcd⟩ := F.ex
  refine ⟨len, ?_⟩
  intro A outer s H args us vs Q hr hg e0 hb hv hsp
  have hl : vs.length = ps.length := len vs H Q hsp
  have kin : K.In s.heap := e0.mod.kin.keeps (fun b o e => (e0.bs b o e).1)
  have lim : s.heap.NoLimit := e0.mod.nolimit.keeps (fun b o e => (e0.bs b o e).1)
  have hkind : ((ps.zip us).all fun y => (defScope st).names.lookup y.1 == some .local || (defScope st).names.lookup y.1 == some .cell) = true := by
    rw [List.all_eq_true]
    rintro ⟨n, v⟩ hy
    rcases S.par n (List.of_mem_zip hy).1 with q | q
    · simp [q]
    · simp [q]
  refine Att.call_fn kin lim lk hcd hr.depth hb hkind (fun s1 x => ?_) S.co S.gen S.kind
  obtain ⟨t, ht, q⟩ := hbody cdv A outer s H vs Q (hr.deeper _) hg hsp
  have I := inv_start (CX := CX0) (P := P) (w := w) (K := K) (mg := mg) (base := base) (E := E0) S hr.hd e0 hl hv x
  refine wpAny_mono (ht.nox.run [] s1 (start N vs) H _ I q) (fun fl s' hs => ?_) (fun e s' hs => hs)
  have fin : ∀ {σ' : L2.St} {H' : Hp} {v : V} {u : Value}, Inv (cxOf CX0 P w K mg base N qual (defScope st) f cdv A outer s H E0) [] σ' H' s' → RelV v u → Q v H' → CE outer P w H s Q u s' := by
    intro σ' H' v u J rv qv
    exact ⟨v, H', J.os, J.bare, J.base, J.hok, rv, qv⟩
  cases fl with
  | next =>
    obtain ⟨σ', H', J, qq⟩ := hs
    exact fin (v := .non) (u := .none) J rfl qq
  | ret u =>
    obtain ⟨v, σ', H', J, rv, qq⟩ := hs
    exact fin J rv qq
  | brk => obtain ⟨_, _, _, qq⟩ := hs; exact qq.elim
  | cont => obtain ⟨_, _, _, qq⟩ := hs; exact qq.elim
end
section
variable {X : Cx} {k : Nat} {f : Addr} {fd : FuncData} {ps ks : List Str} {sp : SpG} {x : Str} {p pos : Pos} {e : Expr} {es : List Expr} {t tk : TA} {kws : List Keyword} {g : List Value → List Value → List Value} {gV : List V → List V → List V}
/-- behind the arguments -/
theorem runG {pins : List (Addr × Obj)} {σ : L2.St} {H : Hp} {s : Shared} {Q : VK} {args : Args} {us : List Value} {vs : List V} (F : FnG X.prog X.w X.K X.mg X.base k f fd ps sp) (hr : Room k X.A) (hgd : X.A.guards = some []) (I : Inv X pins σ H s)
    (hb : BindsTo s fd args (ps.zip us)) (r : Vals vs us) (h : sp vs H Q) : codeAny (model X.prog X.w) X.A (.call (.ref f) args) (fun r s' => match r with
      | .ok (.ret u) => EP X pins σ Q u s'
      | _ => False) s := by
  refine codeAny_mono (F.run X.A X.stack s H args us vs Q hr hgd I.env0 hb r h) (fun r s' hq => ?_)
  cases r with
  | error e => exact hq.elim
  | ok fl =>
    cases fl with
    | ret u => exact I.after hq
    | next => exact hq.elim
    | brk => exact hq.elim
    | cont => exact hq.elim
theorem callG {pins : List (Addr × Obj)} {σ : L2.St} {H : Hp} {s : Shared} {Q : VK} {us0 us : List Value} {kw : List (Str × Value)} {vs : List V} (F : FnG X.prog X.w X.K X.mg X.base k f fd ps sp) (hr : Room k X.A) (hgd : X.A.guards = some []) (I : Inv X pins σ H s)
    (hb : BindsTo s fd ⟨us0, kw⟩ (ps.zip us)) (r : Vals vs us) (h : sp vs H Q) : wpAny (model X.prog X.w) X.A (call (.ref f) us0 kw) (EP X pins σ Q) X.xe s := by
  refine wpAny_call (codeAny_mono (runG F hr hgd I hb r h) (fun r s' hq => ?_))
  cases r with
  | error e => exact hq.elim
  | ok fl =>
    cases fl with
    | ret u => exact hq
    | next => exact hq.elim
    | brk => exact hq.elim
    | cont => exact hq.elim
theorem pe_callG (F : FnG X.prog X.w X.K X.mg X.base k f fd ps sp) (hr : Room k X.A) (hgd : X.A.guards = some []) (hg : Gl X x) (hm : X.mg x = some (.ref f)) (hk : PySem.W.keepIn X.K (.ref f) = true) (hb : Binds X.K fd ps []) (ha : PA X (e :: es) t)
    (hdb : (x == ("__debug__" : Str)) = false := by decide) (he : starEach (e :: es) X.env = (false, eval e X.env) :: starEach es X.env := by rfl) (hpl : (backTo pos (starEach es X.env)).any (·.1) = false := by rfl) :
    PE X (.Call (.Name x p) (e :: es) [] pos) (fun σ H Q => t σ H fun vs H1 => sp vs H1 Q) := by
  constructor
  intro pins s σ H Q I h
  apply wpAny_Call_Name_kw
  apply ld_glob I hg hm _ hdb
  apply PySem.W.callWith_K (h₀ := X.base) I.ok.mod.kin hk _ he hpl
  apply thn (ha.run pos pins s σ H _ I h)
  rintro us s1 ⟨vs, H1, I1, r, q⟩
  have hl : (us ++ ([] : List Value)).length = ps.length := by rw [List.append_nil, ← r.length]; exact F.len _ _ _ q
  have hb1 := hb s1 us I1.kIn hl
  rw [List.append_nil] at hb1
  exact ⟨I1.kIn, callG F hr hgd I1 hb1 r q⟩
theorem pe_callG0 (F : FnG X.prog X.w X.K X.mg X.base k f fd ps sp) (hr : Room k X.A) (hgd : X.A.guards = some []) (hg : Gl X x) (hm : X.mg x = some (.ref f)) (hk : PySem.W.keepIn X.K (.ref f) = true) (hb : Binds X.K fd ps []) (hdb : (x == ("__debug__" : Str)) = false := by decide) :
    PE X (.Call (.Name x p) [] [] pos) (fun σ H Q => sp [] H Q) := by
  constructor
  intro pins s σ H Q I h
  apply wpAny_Call_Name_kw
  apply ld_glob I hg hm _ hdb
  have hl : (([] : List Value) ++ []).length = ps.length := (F.len _ _ _ h)
  exact PySem.W.callWith_K0 I.kIn hk (callG F hr hgd I (hb s [] I.kIn hl) .nil h)
/-- with keywords -/
theorem pe_callGK (F : FnG X.prog X.w X.K X.mg X.base k f fd ps sp) (hr : Room k X.A) (hgd : X.A.guards = some []) (hg : Gl X x) (hm : X.mg x = some (.ref f)) (hk : PySem.W.keepIn X.K (.ref f) = true) (hb : KBinds X.K fd ps ks g gV) (ha : PA X (e :: es) t) (hkw : PK X kws tk)
    (hall : (backToKw pos (keywordEach kws X.env)).all (·.1.isSome) = true := by rfl) (hks : (backToKw pos (keywordEach kws X.env)).filterMap (·.1) = ks := by rfl) (hdb : (x == ("__debug__" : Str)) = false := by decide)
    (he : starEach (e :: es) X.env = (false, eval e X.env) :: starEach es X.env := by rfl) (hpl : ((backTo pos (starEach (e :: es) X.env)).any (·.1) || (backToKw pos (keywordEach kws X.env)).any (·.1.isNone)) = false := by rfl) :
    PE X (.Call (.Name x p) (e :: es) kws pos) (fun σ H Q => t σ H fun vs H1 => tk σ H1 fun zs H2 => sp (gV vs zs) H2 Q) := by
  constructor
  intro pins s σ H Q I h
  apply wpAny_Call_Name_kw
  apply ld_glob I hg hm _ hdb
  apply PySem.W.callWith_KW (h₀ := X.base) I.ok.mod.kin hk hall _ hpl he
  apply thn (ha.run pos pins s σ H _ I h)
  rintro us s1 ⟨vs, H1, I1, r, q⟩
  apply thn (hkw.run pos pins s1 σ H1 _ I1 q)
  rintro ws s2 ⟨zs, H2, I2, rz, q2⟩
  rw [hks]
  have r2 := hb.rel r rz
  have hl : (g us ws).length = ps.length := by rw [← r2.length]; exact F.len _ _ _ q2
  exact ⟨I2.kIn, callG F hr hgd I2 (hb.to s2 us ws I2.kIn hl) r2 q2⟩
theorem pe_callGK0 (F : FnG X.prog X.w X.K X.mg X.base k f fd ps sp) (hr : Room k X.A) (hgd : X.A.guards = some []) (hg : Gl X x) (hm : X.mg x = some (.ref f)) (hk : PySem.W.keepIn X.K (.ref f) = true) (hb : KBinds X.K fd ps ks g gV) (hkw : PK X kws tk)
    (hall : (backToKw pos (keywordEach kws X.env)).all (·.1.isSome) = true := by rfl) (hks : (backToKw pos (keywordEach kws X.env)).filterMap (·.1) = ks := by rfl) (hdb : (x == ("__debug__" : Str)) = false := by decide)
    (hpl : ((backTo pos (starEach [] X.env)).any (·.1) || (backToKw pos (keywordEach kws X.env)).any (·.1.isNone)) = false := by rfl) :
    PE X (.Call (.Name x p) [] kws pos) (fun σ H Q => tk σ H fun zs H2 => sp (gV [] zs) H2 Q) := by
  constructor
  intro pins s σ H Q I h
  apply wpAny_Call_Name_kw
  apply ld_glob I hg hm _ hdb
  apply PySem.W.callWith_KW0 (h₀ := X.base) I.ok.mod.kin hk hall _ hpl
  apply thn (hkw.run pos pins s σ H _ I h)
  rintro ws s2 ⟨zs, H2, I2, rz, q2⟩
  rw [hks]
  have r2 := hb.rel .nil rz
  have hl : (g [] ws).length = ps.length := by rw [← r2.length]; exact F.len _ _ _ q2
  exact ⟨I2.kIn, callG F hr hgd I2 (hb.to s2 [] ws I2.kIn hl) r2 q2⟩
end
end Pv

namespace Pv
open PySem PySem.Spec PyProof.Rows L2

/-! ### how arguments are handed over -/
inductive Ag where
  | v (d : D)
  | mv (i : Nat) (o : O)
  | tp (o : O)
  | bo (i : Nat) (o : O)
@[simp] def agSl : Ag → Sl
  | .v d => .wr (.val d)
  | .mv _ o => .wr o
  | .tp o => .wr o
  | .bo _ o => .rd o
/-- io: the callee may change it -/
@[simp] def mkAg (io : Bool) (p : Opd) (env : Env) : Option Ag := match p with
  | .tmp (.val d) => some (.v d)
  | .tmp o => if io = true then some (.tp o) else o.toD.bind fun d => some (.v d)
  | .slot i => match env[i]? with
    | some (.wr (.val d)) => some (.v d)
    | some (.wr o) => if io = true then some (.mv i o) else some (.bo i o)
    | some (.rd (.val d)) => some (.v d)
    | some (.rd o) => if io = true then none else some (.bo i o)
    | _ => none
@[simp] def mkAgs : List Bool → List Opd → Env → Option (List Ag)
  | _, [], _ => some []
  | io, p :: ps, env => (mkAg (io.headD false) p env).bind fun a => (mkAgs io.tail ps env).bind fun as => some (a :: as)
/-- the slot of an argument that is moved or lent -/
@[simp] def agIx : Ag → Option Nat
  | .mv i _ => some i
  | .bo i _ => some i
  | _ => none
@[simp] def agMv : Ag → Option Nat
  | .mv i _ => some i
  | _ => none
/-- what is moved is handed over once -/
@[simp] def apartAg : List Ag → Bool
  | [] => true
  | a :: as => (match agMv a with
      | some i => as.all fun b => agIx b != some i
      | none => true) && (match agIx a with
      | some i => as.all fun b => agMv b != some i
      | none => true) && apartAg as
@[simp] def outAg : List Ag → Env → Env
  | [], env => env
  | .mv i _ :: as, env => outAg as (env.set i .emp)
  | _ :: as, env => outAg as env
/-- what comes back -/
@[simp] def backAg : List Ag → Env → Env → Option Env
  | [], _, env => some env
  | .mv i _ :: as, s :: e, env => match s with
    | .wr o => backAg as e (env.set i (.wr o))
    | .emp => backAg as e (env.set i .emp)
    | .rd _ => none
  | _ :: as, _ :: e, env => backAg as e env
  | _ :: _, [], _ => none

theorem apartAg_of : ∀ {as : List Ag}, apartAg as = true → ∀ (j k : Nat) (a b : Ag) (i : Nat), j ≠ k → as[j]? = some a → as[k]? = some b → agMv a = some i → agIx b ≠ some i
  | [], _, j, k, a, b, i, _, h, _, _ => by simp at h
  | x :: xs, h, j, k, a, b, i, hn, ha, hb, hm => by
    simp only [apartAg, Bool.and_eq_true] at h
    obtain ⟨⟨h1, h2⟩, h3⟩ := h
    cases j with
    | zero =>
      cases k with
      | zero => exact absurd rfl hn
      | succ k =>
        simp at ha hb
        subst ha
        rw [hm] at h1
        have q := List.all_eq_true.mp h1 b (List.mem_of_getElem? hb)
        simpa using q
    | succ j =>
      cases k with
      | zero =>
        simp at ha hb
        subst hb
        intro e
        rw [e] at h2
        have q := List.all_eq_true.mp h2 a (List.mem_of_getElem? ha)
        rw [hm] at q
        simp at q
      | succ k => exact apartAg_of h3 j k a b i (by omega) (by simpa using ha) (by simpa using hb) hm

section
variable {K : PySem.W.Frag} {P : Pt} {G H G' H' : Hp} {σ : L2.St} {env env' : Env} {fp : Fp} {vs : List V} {ps : List Opd} {B : List Addr}
/-- what stands at one argument: its value and its footprint -/
def AgOk (K : PySem.W.Frag) (G H : Hp) (σ : L2.St) (env : Env) (fp : Fp) (B Bf : List Addr) (v : V) (L : List Addr) : Ag → Prop
  | .v d => L = [] ∧ ∀ G', Sub G G' → (∀ a ∈ Bf, G' a = H a) → Dq K G' v d
  | .mv i o => σ[i]? = some (some v) ∧ env[i]? = some (.wr o) ∧ L = fp i
  | .bo i o => σ[i]? = some (some v) ∧ (env[i]? = some (.wr o) ∨ env[i]? = some (.rd o)) ∧ L = fp i
  | .tp o => Ro K G H v o L ∧ L.Nodup ∧ ∀ a ∈ L, a ∈ B ∧ a ∉ Bf
structure ArgsOk (K : PySem.W.Frag) (G H : Hp) (σ : L2.St) (env : Env) (fp : Fp) (B : List Addr) (vs : List V) (as : List Ag) (Bf : List Addr) (fl : Fp) : Prop where
  len : vs.length = as.length
  at' : ∀ j a, as[j]? = some a → ∃ v, vs[j]? = some v ∧ AgOk K G H σ env fp B Bf v (fl j) a
  sub : ∀ a ∈ Bf, a ∈ B
  tps : ∀ j k a b o q, j ≠ k → as[j]? = some (.tp o) → as[k]? = some (.tp q) → a ∈ fl j → b ∈ fl k → a ≠ b
def consF (L : List Addr) (fl : Fp) : Fp := fun j => match j with
  | 0 => L
  | j + 1 => fl j
theorem AgOk.more {B B2 Bf Bf2 L : List Addr} {v : V} {a : Ag} (h : AgOk K G H σ env fp B Bf v L a) (hB : ∀ x ∈ B, x ∈ B2) (h1 : ∀ x ∈ Bf, x ∈ Bf2) (h2 : ∀ x ∈ B, x ∉ Bf → x ∉ Bf2) : AgOk K G H σ env fp B2 Bf2 v L a := by
  cases a with
  | v d => exact ⟨h.1, fun G' g k => h.2 G' g fun a ha => k a (h1 a ha)⟩
  | mv i o => exact h
  | bo i o => exact h
  | tp o => exact ⟨h.1, h.2.1, fun a ha => ⟨hB a (h.2.2 a ha).1, h2 a (h.2.2 a ha).1 (h.2.2 a ha).2⟩⟩
theorem args_mk (k : Ok K P G H σ env fp) (r : Reps K G H σ vs ps B) : ∀ {io : List Bool} {as : List Ag}, B.Nodup → mkAgs io ps env = some as → ∃ Bf fl, ArgsOk K G H σ env fp B vs as Bf fl := by
  induction r with
  | nil =>
    intro io as _ h
    cases h
    exact ⟨[], fun _ => [], rfl, (fun j a h => by simp at h), (fun _ h => nomatch h), (fun j k a b o q _ h => by simp at h)⟩
  | @slot v i vs ps B hv r ih =>
    intro io as nd h
    simp only [mkAgs, Option.bind_eq_some_iff] at h
    obtain ⟨a, h1, as', h2, h3⟩ := h
    cases h3
    obtain ⟨Bf, fl, z⟩ := ih nd h2
    have key : ∃ L, AgOk K G H σ env fp B Bf v L a ∧ ∀ o, a ≠ .tp o := by
      simp only [mkAg] at h1
      split at h1
      · rename_i d e
        cases h1
        obtain ⟨v', hv', r⟩ := k.wr i _ e
        rw [hv] at hv'; cases hv'
        exact ⟨[], ⟨rfl, fun G' g _ => dp_mono g _ _ (ro_val_inv r).1⟩, fun _ => by simp⟩
      · rename_i o hno e
        split at h1
        · cases h1; exact ⟨fp i, ⟨hv, e, rfl⟩, fun _ => by simp⟩
        · cases h1; exact ⟨fp i, ⟨hv, .inl e, rfl⟩, fun _ => by simp⟩
      · rename_i d e
        cases h1
        obtain ⟨v', hv', r⟩ := k.rd i _ e
        rw [hv] at hv'; cases hv'
        exact ⟨[], ⟨rfl, fun G' g _ => dp_mono g _ _ (ro_val_inv r).1⟩, fun _ => by simp⟩
      · rename_i o hno e
        split at h1
        · cases h1
        · cases h1; exact ⟨fp i, ⟨hv, .inr e, rfl⟩, fun _ => by simp⟩
      · cases h1
    obtain ⟨L, hL, hnt⟩ := key
    refine ⟨Bf, consF L fl, by simp [z.len], fun j b hb => ?_, z.sub, fun j l x y o q hn hj hl hx hy => ?_⟩
    · cases j with
      | zero => simp at hb; subst hb; exact ⟨v, rfl, hL⟩
      | succ j => obtain ⟨w, h4, h5⟩ := z.at' j b (by simpa using hb); exact ⟨w, by simpa using h4, h5⟩
    · cases j with
      | zero => simp at hj; exact absurd hj (hnt o)
      | succ j =>
        cases l with
        | zero => simp at hl; exact absurd hl (hnt q)
        | succ l => exact z.tps j l x y o q (by omega) (by simpa using hj) (by simpa using hl) hx hy
  | @tmp v o B1 vs ps C r1 r ih =>
    intro io as nd h
    simp only [mkAgs, Option.bind_eq_some_iff] at h
    obtain ⟨a, h1, as', h2, h3⟩ := h
    cases h3
    have nds := List.nodup_append.mp nd
    obtain ⟨Bf, fl, z⟩ := ih nds.2.1 h2
    have disj : ∀ x ∈ B1, x ∉ C := fun x h1 h2 => nds.2.2 x h1 x h2 rfl
    -- an argument that is frozen
    have frozen : ∀ d, o.toD = some d → a = .v d → ∃ Bf2 fl2, ArgsOk K G H σ env fp (B1 ++ C) (v :: vs) (a :: as') Bf2 fl2 := fun d hd ha => by
      refine ⟨B1 ++ Bf, consF [] fl, by simp [z.len], fun j b hb => ?_, fun x hx => ?_, fun j l x y o' q hn hj hl hx hy => ?_⟩
      · cases j with
        | zero => simp at hb; subst hb; subst ha; exact ⟨v, rfl, rfl, fun G' g kk => ro_toD g o v B1 d (fun x hx => kk x (List.mem_append_left _ hx)) r1 hd⟩
        | succ j =>
          obtain ⟨w, h4, h5⟩ := z.at' j b (by simpa using hb)
          refine ⟨w, by simpa using h4, h5.more (fun x hx => List.mem_append_right _ hx) (fun x hx => List.mem_append_right _ hx) fun x hx hn hm => ?_⟩
          rcases List.mem_append.mp hm with hm | hm
          · exact disj x hm hx
          · exact hn hm
      · rcases List.mem_append.mp hx with hx | hx
        · exact List.mem_append_left _ hx
        · exact List.mem_append_right _ (z.sub x hx)
      · cases j with
        | zero => simp at hj; rw [ha] at hj; cases hj
        | succ j =>
          cases l with
          | zero => simp at hl; rw [ha] at hl; cases hl
          | succ l => exact z.tps j l x y o' q (by omega) (by simpa using hj) (by simpa using hl) hx hy
    have kept : a = .tp o → ∃ Bf2 fl2, ArgsOk K G H σ env fp (B1 ++ C) (v :: vs) (a :: as') Bf2 fl2 := fun ha => by
      have sub' : ∀ j b, as'[j]? = some b → ∀ q, b = .tp q → ∀ x ∈ fl j, x ∈ C := fun j b hb q hq x hx => by
        obtain ⟨w, h4, h5⟩ := z.at' j b hb
        subst hq
        exact (h5.2.2 x hx).1
      refine ⟨Bf, consF B1 fl, by simp [z.len], fun j b hb => ?_, fun x hx => List.mem_append_right _ (z.sub x hx), fun j l x y o' q hn hj hl hx hy => ?_⟩
      · cases j with
        | zero =>
          simp at hb; subst hb; subst ha
          exact ⟨v, rfl, r1, nds.1, fun x hx => ⟨List.mem_append_left _ hx, fun hf => disj x hx (z.sub x hf)⟩⟩
        | succ j =>
          obtain ⟨w, h4, h5⟩ := z.at' j b (by simpa using hb)
          exact ⟨w, by simpa using h4, h5.more (fun x hx => List.mem_append_right _ hx) (fun x hx => hx) fun x hx hn => hn⟩
      · cases j with
        | zero =>
          cases l with
          | zero => exact absurd rfl hn
          | succ l => intro e; subst e; exact disj x hx (sub' l _ (by simpa using hl) q rfl x hy)
        | succ j =>
          cases l with
          | zero => intro e; subst e; exact disj x hy (sub' j _ (by simpa using hj) o' rfl x hx)
          | succ l => exact z.tps j l x y o' q (by omega) (by simpa using hj) (by simpa using hl) hx hy
    cases o with
    | val d => cases h1; exact frozen d (by simp) rfl
    | own xs =>
      simp only [mkAg] at h1
      split at h1
      · cases h1; exact kept rfl
      · simp only [Option.bind_eq_some_iff] at h1
        obtain ⟨d, hd, h1⟩ := h1
        cases h1
        exact frozen d hd rfl
    | odic xs =>
      simp only [mkAg] at h1
      split at h1
      · cases h1; exact kept rfl
      · simp only [Option.bind_eq_some_iff] at h1
        obtain ⟨d, hd, h1⟩ := h1
        cases h1
        exact frozen d hd rfl
theorem set_emp {i j : Nat} {x : Sl} (h : (env.set i .emp)[j]? = some x) (hx : x ≠ .emp) : j ≠ i ∧ env[j]? = some x := by
  by_cases e : j = i
  · subst e
    rw [List.getElem?_set] at h
    simp at h
    exact absurd h.2.symm hx
  · rw [set_ne e] at h
    exact ⟨e, h⟩
theorem outAg_get : ∀ {as : List Ag} {env : Env} {i : Nat} {x : Sl}, (outAg as env)[i]? = some x → x ≠ .emp → env[i]? = some x ∧ ∀ (j : Nat) (o : O), as[j]? ≠ some (Ag.mv i o)
  | [], env, i, x, h, _ => ⟨h, fun j o => by simp⟩
  | a :: as, env, i, x, h, hx => by
    have rest : ∀ (env' : Env), (outAg as env')[i]? = some x → (∀ o, a ≠ .mv i o) → env'[i]? = some x ∧ ∀ (j : Nat) (o : O), (a :: as)[j]? ≠ some (Ag.mv i o) := fun env' h hn => by
      obtain ⟨h1, h2⟩ := outAg_get h hx
      refine ⟨h1, fun j o => ?_⟩
      cases j with
      | zero => simpa using hn o
      | succ j => simpa using h2 j o
    cases a with
    | mv k o =>
      have h : (outAg as (env.set k .emp))[i]? = some x := h
      obtain ⟨h1, h2⟩ := outAg_get h hx
      obtain ⟨n, h1⟩ := set_emp h1 hx
      refine ⟨h1, fun j o' => ?_⟩
      cases j with
      | zero =>
        intro e
        have e : some (Ag.mv k o) = some (.mv i o') := e
        cases e
        exact n rfl
      | succ j => simpa using h2 j o'
    | v d => exact rest env h fun _ => by simp
    | tp o => exact rest env h fun _ => by simp
    | bo k o => exact rest env h fun _ => by simp
theorem Ok.out (k : Ok K P G H σ env fp) : ∀ as : List Ag, ∀ {env : Env}, Ok K P G H σ env fp → Ok K P G H σ (outAg as env) fp
  | [], _, k => k
  | .mv i _ :: as, _, k' => Ok.out k as (k'.drop i)
  | .v _ :: as, _, k' => Ok.out k as k'
  | .tp _ :: as, _, k' => Ok.out k as k'
  | .bo _ _ :: as, _, k' => Ok.out k as k'
theorem Ok.frame {A A' : AS} (k : Ok K P G H σ env fp) (s : Stp G H A G' H' A') (sub : Sub G' H') (h1 : ∀ a, Own env fp a → ¬ A a) (h2 : ∀ a, Pr P a → ¬ A a) : Ok K P G' H' σ env fp where
  len := k.len
  wr := fun i o e => let ⟨v, q, r⟩ := k.wr i o e; ⟨v, q, ro_mono s.ge _ _ _ (fun a ha => by obtain ⟨u, z⟩ := ro_some _ _ _ r a ha; rw [z]; exact s.keep a u z (h1 a ⟨i, o, e, ha⟩)) r⟩
  rd := fun i o e => let ⟨v, q, r⟩ := k.rd i o e; ⟨v, q, ro_mono s.ge _ _ _ (fun a ha => by obtain ⟨u, z⟩ := ro_some _ _ _ r a ha; rw [z]; exact s.keep a u z (h2 a ⟨i, k.prot i o a e ha⟩)) r⟩
  sub := sub
  nd := k.nd
  off := fun i o a e ha => by
    cases q : G' a with
    | none => rfl
    | some w =>
      rcases s.frz a w q with z | z | z
      · rw [k.off i o a e ha] at z; cases z
      · exact absurd z (h1 a ⟨i, o, e, ha⟩)
      · obtain ⟨u, y⟩ := k.has ⟨i, o, e, ha⟩
        rw [z] at y; cases y
  apart := k.apart
  prot := k.prot
  free := k.free
  there := fun a h => let ⟨u, e⟩ := k.there a h; ⟨u, s.keep a u e (h2 a h)⟩
def lentP (as : List Ag) (fl : Fp) : Pt := fun j a => (∃ (i : Nat) (o : O), as[j]? = some (Ag.bo i o)) ∧ a ∈ fl j
theorem ag_wr {as : List Ag} {j : Nat} {o : O} (h : (as.map agSl)[j]? = some (.wr o)) : (∃ (d : D), as[j]? = some (Ag.v d) ∧ o = .val d) ∨ (∃ (i : Nat), as[j]? = some (Ag.mv i o)) ∨ as[j]? = some (Ag.tp o) := by
  rw [List.getElem?_map, Option.map_eq_some_iff] at h
  obtain ⟨a, h1, h2⟩ := h
  cases a with
  | v d => cases h2; exact .inl ⟨d, h1, rfl⟩
  | mv i q => cases h2; exact .inr (.inl ⟨i, h1⟩)
  | tp q => cases h2; exact .inr (.inr h1)
  | bo i q => cases h2
theorem ag_rd {as : List Ag} {j : Nat} {o : O} (h : (as.map agSl)[j]? = some (.rd o)) : ∃ (i : Nat), as[j]? = some (Ag.bo i o) := by
  rw [List.getElem?_map, Option.map_eq_some_iff] at h
  obtain ⟨a, h1, h2⟩ := h
  cases a with
  | bo i q => cases h2; exact ⟨i, h1⟩
  | _ => cases h2
section
variable {as : List Ag} {Bf : List Addr} {fl : Fp}
/-- what the callee owns -/
theorem ag_own (z : ArgsOk K G H σ env fp B vs as Bf fl) {a : Addr} (h : Own (as.map agSl) fl a) : (∃ (j i : Nat) (o : O), as[j]? = some (Ag.mv i o) ∧ env[i]? = some (.wr o) ∧ a ∈ fp i) ∨ (a ∈ B ∧ a ∉ Bf) := by
  obtain ⟨j, o, e, ha⟩ := h
  rcases ag_wr e with ⟨d, h1, rfl⟩ | ⟨i, h1⟩ | h1
  · obtain ⟨v, _, h3⟩ := z.at' j _ h1
    rw [h3.1] at ha; cases ha
  · obtain ⟨v, _, h3, h4, h5⟩ := z.at' j _ h1
    exact .inl ⟨j, i, o, h1, h4, by rw [← h5]; exact ha⟩
  · obtain ⟨v, _, h3, h4, h5⟩ := z.at' j _ h1
    exact .inr (h5 a ha)
theorem args_ok {ws : List V} (k : Ok K P G H σ env fp) (t : Tps K P G H σ (Own env fp) ws ps B) (z : ArgsOk K G H σ env fp B vs as Bf fl) (ap : apartAg as = true) : Ok K (lentP as fl) (frzn G H Bf) H (vs.map some) (as.map agSl) fl := by
  have hBG : ∀ a ∈ Bf, G a = none := fun a ha => (t.off a (z.sub a ha)).2.1
  have ge : Sub G (frzn G H Bf) := frzn_ge hBG
  have vget : ∀ {j : Nat} {v : V}, vs[j]? = some v → (vs.map some)[j]? = some (some v) := fun {j v} h => by rw [List.getElem?_map, h]; rfl
  have apO := apartAg_of ap
  -- what is lent lies apart from what is moved
  have lend : ∀ {j l i o a}, as[j]? = some (.mv i o) → a ∈ fl j → lentP as fl l a → False := fun {j l i o a} hj ha ⟨⟨i', o', hl⟩, hal⟩ => by
    obtain ⟨v, _, _, h4, h5⟩ := z.at' j _ hj
    obtain ⟨v', _, _, h4', h5'⟩ := z.at' l _ hl
    rw [h5] at ha; rw [h5'] at hal
    have hjl : j ≠ l := fun e => by subst e; rw [hj] at hl; cases hl
    have hii : i ≠ i' := fun e => by subst e; exact apO j l _ _ _ hjl hj hl rfl rfl
    rcases h4' with h4' | h4'
    · exact k.apart i i' o o' a hii h4 h4' ha hal
    · exact k.free i o a h4 ha ⟨i', k.prot i' o' a h4' hal⟩
  have lendT : ∀ {j l o a}, as[j]? = some (.tp o) → a ∈ fl j → lentP as fl l a → False := fun {j l o a} hj ha ⟨⟨i', o', hl⟩, hal⟩ => by
    obtain ⟨v, _, _, _, h5⟩ := z.at' j _ hj
    obtain ⟨v', _, _, h4', h5'⟩ := z.at' l _ hl
    rw [h5'] at hal
    obtain ⟨n1, n2, n3⟩ := t.off a (h5 a ha).1
    rcases h4' with h4' | h4'
    · exact n1 ⟨i', o', h4', hal⟩
    · exact n3 ⟨i', k.prot i' o' a h4' hal⟩
  refine ⟨by simp [z.len], fun j o e => ?_, fun j o e => ?_, frzn_sub k.sub, fun j o e => ?_, fun j o a e ha => ?_, fun j l o q a hn e e' ha ha' => ?_, fun j o a e ha => ?_, fun j o a e ha hp => ?_, fun a ⟨l, ⟨i, o, hl⟩, ha⟩ => ?_⟩
  · rcases ag_wr e with ⟨d, h1, rfl⟩ | ⟨i, h1⟩ | h1
    · obtain ⟨v, h2, h3, h4⟩ := z.at' j _ h1
      exact ⟨v, vget h2, by rw [h3]; exact .val (h4 _ ge fun a ha => frzn_at a ha)⟩
    · obtain ⟨v, h2, h3, h4, h5⟩ := z.at' j _ h1
      obtain ⟨v', h6, r⟩ := k.wr i o h4
      rw [h3] at h6; cases h6
      exact ⟨v, vget h2, by rw [h5]; exact ro_mono ge _ _ _ (fun _ _ => rfl) r⟩
    · obtain ⟨v, h2, h3, h4, h5⟩ := z.at' j _ h1
      exact ⟨v, vget h2, ro_mono ge _ _ _ (fun _ _ => rfl) h3⟩
  · obtain ⟨i, h1⟩ := ag_rd e
    obtain ⟨v, h2, h3, h4, h5⟩ := z.at' j _ h1
    have : ∃ v', σ[i]? = some (some v') ∧ Ro K G H v' o (fp i) := by
      rcases h4 with h4 | h4
      · exact k.wr i o h4
      · exact k.rd i o h4
    obtain ⟨v', h6, r⟩ := this
    rw [h3] at h6; cases h6
    exact ⟨v, vget h2, by rw [h5]; exact ro_mono ge _ _ _ (fun _ _ => rfl) r⟩
  · rcases ag_wr e with ⟨d, h1, rfl⟩ | ⟨i, h1⟩ | h1
    · obtain ⟨v, h2, h3, h4⟩ := z.at' j _ h1; rw [h3]; exact List.nodup_nil
    · obtain ⟨v, h2, h3, h4, h5⟩ := z.at' j _ h1; rw [h5]; exact k.nd i o h4
    · obtain ⟨v, h2, h3, h4, h5⟩ := z.at' j _ h1; exact h4
  · have q := ag_own z ⟨j, o, e, ha⟩
    rcases q with ⟨j', i, o', h1, h2, h3⟩ | ⟨h1, h2⟩
    · rw [frzn_off fun hb => (t.off a (z.sub a hb)).1 ⟨i, o', h2, h3⟩]
      exact k.off i o' a h2 h3
    · rw [frzn_off h2]; exact (t.off a h1).2.1
  · rcases ag_wr e with ⟨d, h1, rfl⟩ | ⟨i, h1⟩ | h1
    · obtain ⟨v, h2, h3, h4⟩ := z.at' j _ h1; rw [h3] at ha; cases ha
    · obtain ⟨v, h2, h3, h4, h5⟩ := z.at' j _ h1
      rw [h5] at ha
      rcases ag_wr e' with ⟨d, h1', rfl⟩ | ⟨i', h1'⟩ | h1'
      · obtain ⟨v, h2, h3, h4⟩ := z.at' l _ h1'; rw [h3] at ha'; cases ha'
      · obtain ⟨v', h2', h3', h4', h5'⟩ := z.at' l _ h1'
        rw [h5'] at ha'
        exact k.apart i i' o q a (fun e => by subst e; exact apO j l _ _ _ hn h1 h1' rfl rfl) h4 h4' ha ha'
      · obtain ⟨v', h2', h3', h4', h5'⟩ := z.at' l _ h1'
        exact (t.off a (h5' a ha').1).1 ⟨i, o, h4, ha⟩
    · obtain ⟨v, h2, h3, h4, h5⟩ := z.at' j _ h1
      rcases ag_wr e' with ⟨d, h1', rfl⟩ | ⟨i', h1'⟩ | h1'
      · obtain ⟨v, h2, h3, h4⟩ := z.at' l _ h1'; rw [h3] at ha'; cases ha'
      · obtain ⟨v', h2', h3', h4', h5'⟩ := z.at' l _ h1'
        rw [h5'] at ha'
        exact (t.off a (h5 a ha).1).1 ⟨i', q, h4', ha'⟩
      · exact z.tps j l a a o q hn h1 h1' ha ha' rfl
  · obtain ⟨i, h1⟩ := ag_rd e
    exact ⟨⟨i, o, h1⟩, ha⟩
  · obtain ⟨l, hp⟩ := hp
    rcases ag_wr e with ⟨d, h1, rfl⟩ | ⟨i, h1⟩ | h1
    · obtain ⟨v, h2, h3, h4⟩ := z.at' j _ h1; rw [h3] at ha; cases ha
    · exact lend h1 ha hp
    · exact lendT h1 ha hp
  · obtain ⟨v, h2, h3, h4, h5⟩ := z.at' l _ hl
    rw [h5] at ha
    rcases h4 with h4 | h4
    · exact k.has ⟨i, o, h4, ha⟩
    · obtain ⟨v', _, r⟩ := k.rd i o h4
      exact ro_some _ _ _ r a ha
/-- what came back is put to its slots -/
theorem back_ok : ∀ {as : List Ag} {e : Env} {gl : Fp} {env env2 : Env} {fp : Fp} {vs : List V}, Ok K P G H σ env fp →
    (∀ (j i : Nat) (o q : O), as[j]? = some (Ag.mv i o) → e[j]? = some (Sl.wr q) → ∃ v, σ[i]? = some (some v) ∧ Ro K G H v q (gl j) ∧ (gl j).Nodup ∧ ∀ a ∈ gl j, G a = none ∧ ¬ Pr P a ∧ ¬ Own env fp a) →
    (∀ (j l i i' : Nat) (o o' q q' : O) (a : Addr), j ≠ l → as[j]? = some (Ag.mv i o) → as[l]? = some (Ag.mv i' o') → e[j]? = some (.wr q) → e[l]? = some (.wr q') → a ∈ gl j → a ∉ gl l) →
    backAg as e env = some env2 → ∃ fp2, Ok K P G H σ env2 fp2 ∧ ∀ a, Own env2 fp2 a → Own env fp a ∨ ∃ (j i : Nat) (o q : O), as[j]? = some (Ag.mv i o) ∧ e[j]? = some (Sl.wr q) ∧ a ∈ gl j
  | [], e, gl, env, env2, fp, vs, k, _, _, h => by
    unfold backAg at h
    cases h
    exact ⟨fp, k, fun _ q => .inl q⟩
  | x :: xs, [], gl, env, env2, fp, vs, k, _, _, h => by
    cases x <;> cases h
  | x :: xs, s :: e, gl, env, env2, fp, vs, k, h1, h2, h => by
    have skip : ∀ (env' : Env) (fp' : Fp), Ok K P G H σ env' fp' → (∀ a, Own env' fp' a → Own env fp a ∨ ∃ (i : Nat) (o q : O), x = Ag.mv i o ∧ s = Sl.wr q ∧ a ∈ gl 0) → backAg xs e env' = some env2 → ∃ fp2, Ok K P G H σ env2 fp2 ∧ ∀ a, Own env2 fp2 a → Own env fp a ∨ ∃ (j i : Nat) (o q : O), (x :: xs)[j]? = some (Ag.mv i o) ∧ (s :: e)[j]? = some (Sl.wr q) ∧ a ∈ gl j := fun env' fp' k' hO hb => by
      obtain ⟨fp2, k2, o2⟩ := back_ok (gl := fun j => gl (j + 1)) (vs := vs) k' (fun j i o q hj he => by
        obtain ⟨v, a1, a2, a3, a4⟩ := h1 (j + 1) i o q (by simpa using hj) (by simpa using he)
        refine ⟨v, a1, a2, a3, fun a ha => ⟨(a4 a ha).1, (a4 a ha).2.1, fun hq => ?_⟩⟩
        rcases hO a hq with z | ⟨i', o', q', rfl, rfl, z⟩
        · exact (a4 a ha).2.2 z
        · exact h2 0 (j + 1) i' i o' o q' q a (by omega) rfl (by simpa using hj) rfl (by simpa using he) z ha) (fun j l i i' o o' q q' a hn hj hl hej hel => h2 (j + 1) (l + 1) i i' o o' q q' a (by omega) (by simpa using hj) (by simpa using hl) (by simpa using hej) (by simpa using hel)) hb
      refine ⟨fp2, k2, fun a ha => ?_⟩
      rcases o2 a ha with z | ⟨j, i, o, q, z1, z2, z3⟩
      · rcases hO a z with z | ⟨i', o', q', rfl, rfl, z⟩
        · exact .inl z
        · exact .inr ⟨0, i', o', q', rfl, rfl, z⟩
      · exact .inr ⟨j + 1, i, o, q, by simpa using z1, by simpa using z2, z3⟩
    cases x with
    | mv i o =>
      cases s with
      | wr q =>
        have h : backAg xs e (env.set i (.wr q)) = some env2 := h
        obtain ⟨v, a1, a2, a3, a4⟩ := h1 0 i o q rfl rfl
        have hl : i < env.length := by rw [← k.len]; exact (List.getElem?_eq_some_iff.mp a1).1
        have k1 := k.put (i := i) hl a2 a3 fun a ha => ⟨(a4 a ha).1, (a4 a ha).2.1, fun j q' hj he ha' => (a4 a ha).2.2 ⟨j, q', he, ha'⟩⟩
        rw [set_same a1] at k1
        exact skip _ _ k1 (fun a ha => (own_put ha).imp id fun z => ⟨i, o, q, rfl, rfl, z⟩) h
      | emp =>
        have h : backAg xs e (env.set i .emp) = some env2 := h
        exact skip _ fp (k.drop i) (fun a ha => .inl (own_drop ha)) h
      | rd q => cases h
    | v d => exact skip env fp k (fun _ q => .inl q) h
    | tp o => exact skip env fp k (fun _ q => .inl q) h
    | bo i o => exact skip env fp k (fun _ q => .inl q) h
end
end
end Pv

namespace Pv
open PySem PySem.Spec PyProof.Rows L2

/-! ### what a def does to its slots -/
abbrev MF := List Sl → Option (O × Env)
def spF (K : PySem.W.Frag) (np : Nat) (F : MF) : SpG := fun vs H Q => vs.length = np ∧ ∃ P G env fp o env', Ok K P G H (vs.map some) env fp ∧ F env = some (o, env') ∧
  ∀ G' H' fp' v B, Stp G H (Own env fp) G' H' (fun a => Own env' fp' a ∨ a ∈ B) → Ok K P G' H' (vs.map some) env' fp' → Ro K G' H' v o B → B.Nodup → (∀ a ∈ B, ¬ Own env' fp' a ∧ G' a = none ∧ ¬ Pr P a) → Q v H'
@[simp] def maskE : List Bool → Env → Env
  | [], _ => []
  | _ :: bs, [] => .emp :: maskE bs []
  | b :: bs, s :: e => (if b = true then s else .emp) :: maskE bs e
@[simp] def mDef (n : Nat) (io : List Bool) (body : MS) : MF := fun args => (body (args ++ List.replicate (n - io.length) .emp)).bind fun c => match c with
  | .rt o e => some (o, maskE io e)
  | .nx e => some (.val .none, maskE io e)
  | _ => none
theorem maskE_get : ∀ {io : List Bool} {e : Env} {i : Nat} {x : Sl}, (maskE io e)[i]? = some x → x ≠ .emp → io[i]? = some true ∧ e[i]? = some x
  | [], e, i, x, h, _ => by simp [maskE] at h
  | b :: bs, [], i, x, h, hx => by
    cases i with
    | zero => simp [maskE] at h; exact absurd h.symm hx
    | succ i =>
      simp [maskE] at h
      obtain ⟨_, h2⟩ := maskE_get h hx
      simp at h2
  | b :: bs, s :: e, i, x, h, hx => by
    cases i with
    | zero =>
      cases b with
      | true => simp [maskE] at h; subst h; exact ⟨rfl, rfl⟩
      | false => simp [maskE] at h; exact absurd h.symm hx
    | succ i =>
      simp [maskE] at h
      obtain ⟨h1, h2⟩ := maskE_get h hx
      exact ⟨by simpa using h1, by simpa using h2⟩
theorem maskE_len : ∀ {io : List Bool} {e : Env}, (maskE io e).length = io.length
  | [], e => rfl
  | b :: bs, [] => by simp [maskE, maskE_len]
  | b :: bs, s :: e => by simp [maskE, maskE_len]
def ioF (io : List Bool) : IO := fun i => io.getD i false
section
variable {K : PySem.W.Frag} {P : Pt} {G H G' H' : Hp} {σ σ' : L2.St} {env env' : Env} {fp : Fp}
theorem Ok.start {vs : List V} {N : List Str} (k : Ok K P G H (vs.map some) env fp) (m : Nat) (hm : N.length - vs.length = m) : Ok K P G H (L2.start N vs) (env ++ List.replicate m .emp) fp := by
  have hl : (vs.map some).length = env.length := k.len
  have key : ∀ {i : Nat} {x : Sl}, (env ++ List.replicate m .emp)[i]? = some x → x ≠ .emp → env[i]? = some x := fun {i x} e hx => by
    by_cases hi : i < env.length
    · rw [List.getElem?_append_left hi] at e; exact e
    · rw [List.getElem?_append_right (by omega), List.getElem?_replicate] at e
      split at e
      · cases e; exact absurd rfl hx
      · cases e
  have st : ∀ {i : Nat} {v : V}, (vs.map some)[i]? = some (some v) → (L2.start N vs)[i]? = some (some v) := fun {i v} e => by
    unfold L2.start
    rw [List.getElem?_append_left (List.getElem?_eq_some_iff.mp e).1]
    exact e
  refine ⟨?_, fun i o e => ?_, fun i o e => ?_, k.sub, fun i o e => k.nd i o (key e (by simp)), fun i o a e => k.off i o a (key e (by simp)), fun i j o q a hn e e' => k.apart i j o q a hn (key e (by simp)) (key e' (by simp)), fun i o a e => k.prot i o a (key e (by simp)), fun i o a e => k.free i o a (key e (by simp)), k.there⟩
  · unfold L2.start
    simp only [List.length_append, List.length_replicate]
    rw [hl, hm]
  · obtain ⟨v, h1, h2⟩ := k.wr i o (key e (by simp)); exact ⟨v, st h1, h2⟩
  · obtain ⟨v, h1, h2⟩ := k.rd i o (key e (by simp)); exact ⟨v, st h1, h2⟩
theorem own_start {m : Nat} {a : Addr} (h : Own (env ++ List.replicate m .emp) fp a) : Own env fp a := by
  obtain ⟨i, o, e, ha⟩ := h
  refine ⟨i, o, ?_, ha⟩
  by_cases hi : i < env.length
  · rw [List.getElem?_append_left hi] at e; exact e
  · rw [List.getElem?_append_right (by omega), List.getElem?_replicate] at e
    split at e <;> cases e
theorem own_start' {m : Nat} {a : Addr} (h : Own env fp a) : Own (env ++ List.replicate m .emp) fp a := by
  obtain ⟨i, o, e, ha⟩ := h
  refine ⟨i, o, ?_, ha⟩
  rw [List.getElem?_append_left (List.getElem?_eq_some_iff.mp e).1]
  exact e
theorem own_mask {io : List Bool} {a : Addr} (h : Own (maskE io env) fp a) : Own env fp a := by
  obtain ⟨i, o, e, ha⟩ := h
  exact ⟨i, o, (maskE_get e (by simp)).2, ha⟩
theorem Ok.mask {vs : List V} {N : List Str} {io : List Bool} (k : Ok K P G H σ env fp) (hio : Kio (ioF io) (L2.start N vs) σ) (hl : vs.length = io.length) : Ok K P G H (vs.map some) (maskE io env) fp := by
  have back : ∀ {i : Nat} {x : Sl}, (maskE io env)[i]? = some x → x ≠ .emp → ∀ v, σ[i]? = some (some v) → (vs.map some)[i]? = some (some v) := fun {i x} e hx v hv => by
    obtain ⟨h1, h2⟩ := maskE_get e hx
    have hi : i < io.length := (List.getElem?_eq_some_iff.mp h1).1
    have q := hio.2 i (by unfold ioF; rw [List.getD_eq_getElem?_getD, h1]; rfl)
    rw [hv] at q
    unfold L2.start at q
    rw [List.getElem?_append_left (by rw [List.length_map]; omega)] at q
    exact q.symm
  refine ⟨by rw [maskE_len, List.length_map, hl], fun i o e => ?_, fun i o e => ?_, k.sub, fun i o e => k.nd i o (maskE_get e (by simp)).2, fun i o a e => k.off i o a (maskE_get e (by simp)).2, fun i j o q a hn e e' => k.apart i j o q a hn (maskE_get e (by simp)).2 (maskE_get e' (by simp)).2, fun i o a e => k.prot i o a (maskE_get e (by simp)).2, fun i o a e => k.free i o a (maskE_get e (by simp)).2, k.there⟩
  · obtain ⟨v, h1, h2⟩ := k.wr i o (maskE_get e (by simp)).2
    exact ⟨v, back e (by simp) v h1, h2⟩
  · obtain ⟨v, h1, h2⟩ := k.rd i o (maskE_get e (by simp)).2
    exact ⟨v, back e (by simp) v h1, h2⟩
end
section
variable {P : Program} {w : World} {K : PySem.W.Frag} {mg : Str → Option Value} {base : Heap}
/-- THE RULE for a def -/
theorem fn_def {x qual : Str} {st : Stmt} {f : Addr} {fd : FuncData} {N ps : List Str} {k : Nat} {io : List Bool} {n : Nat} {m : MS} (F : Fun K x qual st f fd) (S : FnScope N ps (defScope st)) (hl : ps.length = io.length) (hn : N.length = n)
    (hbody : ∀ (cdv : Value) (A : Around) (outer : List PySem.Env) (s : Shared) (H : Hp), Room k (A.deeper (envOfC qual (defScope st) s.heap.objs.size f cdv)) → A.guards = some [] →
      VSs (cxOf CX0 P w K mg base N qual (defScope st) f cdv A outer s H E0).nox (ioF io) (defBody st) m) : FnG P w K mg base (k + 1) f fd ps (spF K io.length (mDef n io m)) := by
  refine FnG.of F S (fun vs H Q h => h.1.trans hl.symm) fun cdv A outer s H vs Q hr hg h => ?_
  refine ⟨_, hbody cdv A outer s H hr hg, ?_⟩
  obtain ⟨hv, P', G, env, fp, o, env', k', hF, c⟩ := h
  simp only [mDef, Option.bind_eq_some_iff] at hF
  obtain ⟨ctl, z, hF⟩ := hF
  have k1 := k'.start (N := N) (n - io.length) (by rw [hn, hv])
  refine ⟨P', G, _, fp, ctl, k1, z, ?_⟩
  cases ctl with
  | nx e =>
    cases hF
    intro G1 H1 σ1 fp1 a
    have k2 := a.ok.mask a.kio hv
    exact c G1 H1 fp1 .non [] ⟨a.stp.ge, fun b u e n => a.stp.keep b u e fun q => n (own_start q), fun b h => (a.stp.own b (own_mask (h.elim id fun q => nomatch q))).imp own_start id, fun b u e => (a.stp.frz b u e).imp id fun q => q.imp own_start id⟩ k2 (.val .non) List.nodup_nil (fun _ q => nomatch q)
  | rt r e =>
    cases hF
    intro G1 H1 σ1 fp1 v B a
    have k2 := a.ok.mask a.kio hv
    exact c G1 H1 fp1 v B ⟨a.stp.ge, fun b u e n => a.stp.keep b u e fun q => n (own_start q), fun b h => (a.stp.own b (h.imp own_mask id)).imp own_start id, fun b u e => (a.stp.frz b u e).imp id fun q => q.imp own_start id⟩ k2 a.ro a.nd (fun b hb => ⟨fun q => (a.off b hb).1 (own_mask q), (a.off b hb).2⟩)
  | bk e => cases hF
  | ct e => cases hF
end

/-! ### a call of a def -/
@[simp] def pick {α : Type} (ix : List Nat) (l : List α) : List α := ix.filterMap fun i => l[i]?
@[simp] def arr {α : Type} : Option (List Nat) → List α → List α
  | none, l => l
  | some ix, l => pick ix l
/-- the places are those of the list, each once -/
@[simp] def okIx (ix : Option (List Nat)) (n : Nat) : Bool := match ix with
  | none => true
  | some ix => ix.all (fun i => decide (i < n)) && decide ix.Nodup
@[simp] def mUC (ix : Option (List Nat)) (io : List Bool) (F : MF) (ms : MA) : ME := fun env => (ms env).bind fun r => (mkAgs io r.1 r.2).bind fun as0 => if (okIx ix as0.length && apartAg (arr ix as0) && decide ((arr ix as0).length = io.length)) = true then
    (F ((arr ix as0).map agSl)).bind fun s => (backAg (arr ix as0) s.2 (outAg (arr ix as0) r.2)).bind fun e2 => some (.tmp s.1, e2) else none
theorem pick_get {α : Type} {l : List α} : ∀ {ix : List Nat} {j : Nat}, (∀ i ∈ ix, i < l.length) → (pick ix l)[j]? = ix[j]?.bind fun i => l[i]?
  | [], j, _ => by simp [pick]
  | i :: ix, j, h => by
    have hi : i < l.length := h i (by simp)
    have e : pick (i :: ix) l = l[i] :: pick ix l := by
      unfold pick
      rw [List.filterMap_cons, List.getElem?_eq_getElem hi]
    rw [e]
    cases j with
    | zero => simp [hi]
    | succ j => simpa using pick_get (fun i hi => h i (List.mem_cons_of_mem _ hi))
theorem pick_len {α : Type} {l : List α} : ∀ {ix : List Nat}, (∀ i ∈ ix, i < l.length) → (pick ix l).length = ix.length
  | [], _ => rfl
  | i :: ix, h => by
    have hi : i < l.length := h i (by simp)
    unfold pick
    rw [List.filterMap_cons, List.getElem?_eq_getElem hi]
    simp only [List.length_cons]
    rw [← pick_len (l := l) (ix := ix) (fun i hi => h i (List.mem_cons_of_mem _ hi))]
    rfl
theorem vals_pick {vs : List V} {us : List Value} (h : Vals vs us) : ∀ ix : List Nat, Vals (pick ix vs) (pick ix us)
  | [] => .nil
  | i :: ix => by
    unfold pick
    rw [List.filterMap_cons, List.filterMap_cons]
    cases e : vs[i]? with
    | none => rw [h.none_of e]; exact vals_pick h ix
    | some v =>
      obtain ⟨u, e2, r⟩ := h.get e
      rw [e2]; exact .cons r (vals_pick h ix)
theorem vals_arr {vs : List V} {us : List Value} (h : Vals vs us) : ∀ ix : Option (List Nat), Vals (arr ix vs) (arr ix us)
  | none => h
  | some ix => vals_pick h ix
section
variable {K : PySem.W.Frag} {P : Pt} {G H G' H' : Hp} {σ σ' : L2.St} {env env' : Env} {fp : Fp} {B : List Addr} {vs ps' : List V} {as : List Ag} {Bf : List Addr} {fl : Fp} {ps ops : List Opd}
theorem ArgsOk.arr (z : ArgsOk K G H σ env fp B vs as Bf fl) {ix : Option (List Nat)} (h : okIx ix as.length = true) : ∃ fl', ArgsOk K G H σ env fp B (Pv.arr ix vs) (Pv.arr ix as) Bf fl' := by
  cases ix with
  | none => exact ⟨fl, z⟩
  | some ix =>
    simp only [okIx, Bool.and_eq_true, List.all_eq_true, decide_eq_true_eq] at h
    obtain ⟨h1, h2⟩ := h
    have h1v : ∀ i ∈ ix, i < vs.length := fun i hi => by rw [z.len]; exact h1 i hi
    refine ⟨fun j => fl (ix.getD j 0), by show (pick ix vs).length = (pick ix as).length; rw [pick_len h1, pick_len h1v], fun j a e => ?_, z.sub, fun j k a b o q hn e e' ha hb => ?_⟩
    · have e : (pick ix as)[j]? = some a := e
      rw [pick_get h1, Option.bind_eq_some_iff] at e
      obtain ⟨i, hi, e⟩ := e
      obtain ⟨v, h3, h4⟩ := z.at' i a e
      refine ⟨v, ?_, by rw [List.getD_eq_getElem?_getD, hi]; exact h4⟩
      show (pick ix vs)[j]? = some v
      rw [pick_get h1v, hi]; exact h3
    · have e : (pick ix as)[j]? = some _ := e
      have e' : (pick ix as)[k]? = some _ := e'
      rw [pick_get h1, Option.bind_eq_some_iff] at e e'
      obtain ⟨i, hi, e⟩ := e
      obtain ⟨i', hi', e'⟩ := e'
      rw [List.getD_eq_getElem?_getD, hi] at ha
      rw [List.getD_eq_getElem?_getD, hi'] at hb
      refine z.tps i i' a b o q (fun q => ?_) e e' ha hb
      subst q
      obtain ⟨l1, g1⟩ := List.getElem?_eq_some_iff.mp hi
      obtain ⟨l2, g2⟩ := List.getElem?_eq_some_iff.mp hi'
      exact hn ((List.getElem_inj h2).mp (g1.trans g2.symm))
/-- the callee's end is the caller's -/
theorem call_end {o : O} {e1 e2 : Env} {v : V} {Br : List Addr} {fl' : Fp} (k : Ok K P G H σ env fp) (t : Tps K P G H σ (Own env fp) ps' ops B) (z : ArgsOk K G H σ env fp B vs as Bf fl) (ap : apartAg as = true)
    (s : Stp (frzn G H Bf) H (Own (as.map agSl) fl) G' H' (fun a => Own e1 fl' a ∨ a ∈ Br)) (k' : Ok K (lentP as fl) G' H' (vs.map some) e1 fl') (r : Ro K G' H' v o Br) (nd : Br.Nodup) (off : ∀ a ∈ Br, ¬ Own e1 fl' a ∧ G' a = none ∧ ¬ Pr (lentP as fl) a)
    (hb : backAg as e1 (outAg as env) = some e2) : ∃ fp2, Stp G H (fun a => Own env fp a ∨ a ∈ B) G' H' (fun a => Own e2 fp2 a ∨ a ∈ Br) ∧ Ok K P G' H' σ e2 fp2 ∧ Tps K P G' H' σ (Own e2 fp2) [v] [.tmp o] Br := by
  have ownC : ∀ {a}, Own (as.map agSl) fl a → (∃ (j i : Nat) (o : O), as[j]? = some (Ag.mv i o) ∧ env[i]? = some (.wr o) ∧ a ∈ fp i) ∨ (a ∈ B ∧ a ∉ Bf) := fun {a} h => ag_own z h
  have inA : ∀ {a}, Own (as.map agSl) fl a → Own env fp a ∨ a ∈ B := fun {a} h => (ownC h).imp (fun ⟨j, i, o, _, h2, h3⟩ => ⟨i, o, h2, h3⟩) fun q => q.1
  have hBG : ∀ a ∈ Bf, G a = none := fun a ha => (t.off a (z.sub a ha)).2.1
  have k0 : Ok K P (frzn G H Bf) H σ env fp := k.freeze Bf fun a ha => t.off a (z.sub a ha)
  have k1 : Ok K P (frzn G H Bf) H σ (outAg as env) fp := k0.out as k0
  have outOwn : ∀ {a}, Own (outAg as env) fp a → Own env fp a ∧ ¬ Own (as.map agSl) fl a := fun {a} ⟨i, o, e, ha⟩ => by
    obtain ⟨h1, h2⟩ := outAg_get e (by simp)
    refine ⟨⟨i, o, h1, ha⟩, fun q => ?_⟩
    rcases ownC q with ⟨j, i', o', h3, h4, h5⟩ | ⟨h3, _⟩
    · by_cases hi : i = i'
      · subst hi; exact h2 j o' h3
      · exact k.apart i i' o o' a hi h1 h4 ha h5
    · exact (t.off a h3).1 ⟨i, o, h1, ha⟩
  have prOwn : ∀ {a}, Pr P a → ¬ Own (as.map agSl) fl a := fun {a} h q => by
    rcases ownC q with ⟨j, i', o', h3, h4, h5⟩ | ⟨h3, _⟩
    · exact k.free i' o' a h4 h5 h
    · exact (t.off a h3).2.2 h
  have k2 : Ok K P G' H' σ (outAg as env) fp := k1.frame s k'.sub (fun a h => (outOwn h).2) fun a h => prOwn h
  -- what the callee has now is none of the caller's else
  have newApart : ∀ {a}, (Own e1 fl' a ∨ a ∈ Br) → ¬ Own (outAg as env) fp a ∧ ¬ Pr P a := fun {a} h => by
    rcases s.own a h with q | q
    · exact ⟨fun y => (outOwn y).2 q, fun y => prOwn y q⟩
    · exact ⟨(fun y => by obtain ⟨u, e⟩ := k.has (outOwn y).1; rw [q] at e; cases e), (fun y => by obtain ⟨u, e⟩ := k.there a y; rw [q] at e; cases e)⟩
  obtain ⟨fp2, k3, o3⟩ := back_ok (vs := vs) (gl := fl') k2 (fun j i o q hj he => by
    obtain ⟨v', h1, h2⟩ := k'.wr j q he
    obtain ⟨v, h3, h4, h5, h6⟩ := z.at' j _ hj
    rw [List.getElem?_map, h3] at h1
    cases h1
    exact ⟨_, h4, h2, k'.nd j q he, fun a ha => ⟨k'.off j q a he ha, (newApart (.inl ⟨j, q, he, ha⟩)).2, (newApart (.inl ⟨j, q, he, ha⟩)).1⟩⟩) (fun j l i i' o o' q q' a hn hj hl he he' ha => k'.apart j l q q' a hn he he' ha) hb
  have own2 : ∀ {a}, Own e2 fp2 a → Own (outAg as env) fp a ∨ Own e1 fl' a := fun {a} h => (o3 a h).imp id fun ⟨j, i, o, q, _, h2, h3⟩ => ⟨j, q, h2, h3⟩
  have s1 : Stp G H (fun a => Own env fp a ∨ a ∈ B) (frzn G H Bf) H (fun a => Own env fp a ∨ a ∈ B) := ⟨frzn_ge hBG, fun _ _ h _ => h, fun a h => .inl h, fun a u h => (frzn_cases h).imp id fun q => .inl (.inr (z.sub a q))⟩
  refine ⟨fp2, s1.trans ⟨s.ge, fun a u e n => s.keep a u e fun q => n (inA q), fun a h => ?_, fun a u e => (s.frz a u e).imp id fun q => q.imp inA id⟩, k3, ?_⟩
  · rcases h with h | h
    · rcases own2 h with h | h
      · exact .inl (.inl (outOwn h).1)
      · exact (s.own a (.inl h)).imp inA id
    · exact (s.own a (.inr h)).imp inA id
  · refine ⟨by have q := Reps.tmp (σ := σ) r .nil; rw [List.append_nil] at q; exact q, nd, fun a ha => ⟨fun q => ?_, (off a ha).2.1, (newApart (.inr ha)).2⟩⟩
    rcases own2 q with q | q
    · exact (newApart (.inr ha)).1 q
    · exact (off a ha).1 q
theorem call_seq {ix : Option (List Nat)} {io : List Bool} {F : MF} {np : Nat} {ms : MA} {Q : VK} (q : tN K (mUC ix io F ms) σ H Q) (hnp : io.length = np) : tNs K ms σ H fun vs H1 => spF K np F (Pv.arr ix vs) H1 Q := by
  obtain ⟨P, G, env, fp, p, env', k, hm, c⟩ := q
  simp only [mUC, Option.bind_eq_some_iff] at hm
  obtain ⟨⟨ops, e1⟩, z1, as0, z2, hm⟩ := hm
  split at hm
  case isFalse => cases hm
  case isTrue hok =>
  simp only [Bool.and_eq_true, decide_eq_true_eq] at hok
  obtain ⟨⟨hix, hap⟩, hln⟩ := hok
  simp only [Option.bind_eq_some_iff] at hm
  obtain ⟨⟨o, e2⟩, z3, e3, z4, hm⟩ := hm
  cases hm
  refine ⟨P, G, env, fp, ops, e1, k, z1, fun vs G1 H1 fp1 B s1 k1 t1 => ?_⟩
  obtain ⟨Bf, fl, z⟩ := args_mk k1 t1.rep t1.nd z2
  obtain ⟨fl, z⟩ := z.arr hix
  refine ⟨by rw [z.len]; exact hln.trans hnp, _, frzn G1 H1 Bf, _, fl, o, e2, args_ok k1 t1 z hap, z3, fun G2 H2 fp2 v Br s2 k2 r nd off => ?_⟩
  obtain ⟨fp3, s3, k3, t3⟩ := call_end k1 t1 z hap s2 k2 r nd off z4
  exact c v G2 H2 fp3 Br (s1.trans s3) k3 t3
end
end Pv

namespace Pv
open PySem PySem.Spec PyProof.Rows L2

/-! ### calls, as expressions -/
@[simp] def mApp (n m : Nat) (ms mk : MA) : MA := fun env => (ms env).bind fun r => (mk r.2).bind fun s => if (decide (r.1.length = n) && decide (s.1.length = m)) = true then some (r.1 ++ s.1, s.2) else none
section
variable {X : Cx} {e : Expr} {es : List Expr} {kws : List Keyword} {k : Nat} {f : Addr} {fd : FuncData} {ps ks : List Str} {x : Str} {p pos : Pos} {F : MF} {io : List Bool} {ms mk : MA}
theorem ve_call (Fn : FnG X.prog X.w X.K X.mg X.base k f fd ps (spF X.K io.length F)) (hr : Room k X.A) (hgd : X.A.guards = some []) (hg : Gl X x) (hm : X.mg x = some (.ref f)) (hk : PySem.W.keepIn X.K (.ref f) = true) (hb : Binds X.K fd ps []) (ha : VA X (e :: es) ms)
    (hdb : (x == ("__debug__" : Str)) = false := by decide) (he : starEach (e :: es) X.env = (false, eval e X.env) :: starEach es X.env := by rfl) (hpl : (backTo pos (starEach es X.env)).any (·.1) = false := by rfl) :
    VE X (.Call (.Name x p) (e :: es) [] pos) (mUC none io F ms) :=
  PE.imp (pe_callG Fn hr hgd hg hm hk hb ha hdb he hpl) fun _ _ _ q => call_seq q rfl
theorem ve_call0 (Fn : FnG X.prog X.w X.K X.mg X.base k f fd ps (spF X.K io.length F)) (hr : Room k X.A) (hgd : X.A.guards = some []) (hg : Gl X x) (hm : X.mg x = some (.ref f)) (hk : PySem.W.keepIn X.K (.ref f) = true) (hb : Binds X.K fd ps [])
    (hdb : (x == ("__debug__" : Str)) = false := by decide) : VE X (.Call (.Name x p) [] [] pos) (mUC none io F mNil) :=
  PE.imp (pe_callG0 Fn hr hgd hg hm hk hb hdb) fun _ _ _ q => of_nil (call_seq q rfl)
/-- how keywords bind: n positional values, then those of ks; ix: their places -/
def KB (fd : FuncData) (ps ks : List Str) (n : Nat) (ix : List Nat) : Prop := ∀ us ws : List Value, us.length = n → ws.length = ks.length → bindArgs fd ⟨us, ks.zip ws⟩ = pure (ps.zip (pick ix (us ++ ws)))
theorem seq_app {K : PySem.W.Frag} {n m : Nat} {σ : L2.St} {H : Hp} {Q : List V → Hp → Prop} (q : tNs K (mApp n m ms mk) σ H Q) : tNs K ms σ H fun vs H1 => tNs K mk σ H1 fun zs H2 => vs.length = n ∧ zs.length = m ∧ Q (vs ++ zs) H2 := by
  obtain ⟨P, G, env, fp, ps, env', k, hm, c⟩ := q
  simp only [mApp, Option.bind_eq_some_iff] at hm
  obtain ⟨⟨p1, e1⟩, z, ⟨p2, e2⟩, z2, hm⟩ := hm
  split at hm
  case isFalse => cases hm
  case isTrue hl =>
  simp only [Bool.and_eq_true, decide_eq_true_eq] at hl
  cases hm
  refine ⟨P, G, env, fp, p1, e1, k, z, fun vs G1 H1 fp1 B1 s1 k1 t1 => ?_⟩
  refine ⟨P, G1, e1, fp1, p2, e2, k1, z2, fun zs G2 H2 fp2 B2 s2 k2 t2 => ?_⟩
  have t1' := t1.step s2
  refine ⟨t1.rep.length.trans hl.1, t2.rep.length.trans hl.2, c (vs ++ zs) G2 H2 fp2 (B1 ++ B2) ?_ k2 ⟨?_, ?_, fun a ha => ?_⟩⟩
  · have s2' : Stp G1 H1 (fun a => Own e1 fp1 a ∨ a ∈ B1) G2 H2 (fun a => Own e2 fp2 a ∨ a ∈ B1 ++ B2) := (s2.frame (fun a => a ∈ B1)).less fun a h => h.elim (fun h => .inl (.inl h)) fun h => (List.mem_append.mp h).elim .inr fun h => .inl (.inr h)
    exact s1.trans s2'
  · exact reps_append t1'.rep t2.rep
  · exact List.nodup_append.mpr ⟨t1'.nd, t2.nd, fun a ha b hb e => (by subst e; exact (t1'.off a ha).1 (.inr hb))⟩
  · rcases List.mem_append.mp ha with ha | ha
    · obtain ⟨n1, n2⟩ := t1'.off a ha
      exact ⟨fun q => n1 (.inl q), n2⟩
    · exact t2.off a ha
where
  reps_append {K : PySem.W.Frag} {G H : Hp} {σ : L2.St} {vs ws : List V} {ps qs : List Opd} {B C : List Addr} (a : Reps K G H σ vs ps B) (b : Reps K G H σ ws qs C) : Reps K G H σ (vs ++ ws) (ps ++ qs) (B ++ C) := by
    induction a with
    | nil => exact b
    | slot h _ ih => exact .slot h ih
    | tmp h _ ih => rw [List.append_assoc]; exact .tmp h ih
theorem ve_callK {n : Nat} {ix : List Nat} (Fn : FnG X.prog X.w X.K X.mg X.base k f fd ps (spF X.K io.length F)) (hr : Room k X.A) (hgd : X.A.guards = some []) (hg : Gl X x) (hm : X.mg x = some (.ref f)) (hk : PySem.W.keepIn X.K (.ref f) = true) (hb : KB fd ps ks n ix) (ha : VA X (e :: es) ms) (hkw : VK' X kws mk)
    (hall : (backToKw pos (keywordEach kws X.env)).all (·.1.isSome) = true := by rfl) (hks : (backToKw pos (keywordEach kws X.env)).filterMap (·.1) = ks := by rfl) (hdb : (x == ("__debug__" : Str)) = false := by decide)
    (he : starEach (e :: es) X.env = (false, eval e X.env) :: starEach es X.env := by rfl) (hpl : ((backTo pos (starEach (e :: es) X.env)).any (·.1) || (backToKw pos (keywordEach kws X.env)).any (·.1.isNone)) = false := by rfl) :
    VE X (.Call (.Name x p) (e :: es) kws pos) (mUC (some ix) io F (mApp n ks.length ms mk)) := by
  constructor
  intro pins s σ H Q I h
  apply wpAny_Call_Name_kw
  apply ld_glob I hg hm _ hdb
  apply PySem.W.callWith_KW (h₀ := X.base) I.ok.mod.kin hk hall _ hpl he
  apply thn (ha.run pos pins s σ H _ I (seq_app (call_seq h rfl)))
  rintro us s1 ⟨vs, H1, I1, r, q⟩
  apply thn (hkw.run pos pins s1 σ H1 _ I1 q)
  rintro ws s2 ⟨zs, H2, I2, rz, l1, l2, q2⟩
  rw [hks]
  exact ⟨I2.kIn, callG Fn hr hgd I2 (.of_eq (hb us ws (by rw [← r.length]; exact l1) (by rw [← rz.length]; exact l2))) (vals_pick (r.append rz) ix) q2⟩
theorem ve_callK0 {ix : List Nat} (Fn : FnG X.prog X.w X.K X.mg X.base k f fd ps (spF X.K io.length F)) (hr : Room k X.A) (hgd : X.A.guards = some []) (hg : Gl X x) (hm : X.mg x = some (.ref f)) (hk : PySem.W.keepIn X.K (.ref f) = true) (hb : KB fd ps ks 0 ix) (hkw : VK' X kws mk)
    (hall : (backToKw pos (keywordEach kws X.env)).all (·.1.isSome) = true := by rfl) (hks : (backToKw pos (keywordEach kws X.env)).filterMap (·.1) = ks := by rfl) (hdb : (x == ("__debug__" : Str)) = false := by decide)
    (hpl : ((backTo pos (starEach [] X.env)).any (·.1) || (backToKw pos (keywordEach kws X.env)).any (·.1.isNone)) = false := by rfl) :
    VE X (.Call (.Name x p) [] kws pos) (mUC (some ix) io F (mApp 0 ks.length mNil mk)) := by
  constructor
  intro pins s σ H Q I h
  apply wpAny_Call_Name_kw
  apply ld_glob I hg hm _ hdb
  apply PySem.W.callWith_KW0 (h₀ := X.base) I.ok.mod.kin hk hall _ hpl
  apply thn (hkw.run pos pins s σ H _ I (of_nil (seq_app (call_seq h rfl))))
  rintro ws s2 ⟨zs, H2, I2, rz, l1, l2, q2⟩
  rw [hks]
  exact ⟨I2.kIn, callG Fn hr hgd I2 (.of_eq (hb [] ws rfl (by rw [← rz.length]; exact l2))) (vals_pick rz ix) q2⟩
end

/-! ### a slot's own list changes -/
section
variable {K : PySem.W.Frag} {P : Pt} {G H : Hp} {σ : L2.St} {env : Env} {fp : Fp} {i : Nat}
theorem Ok.mutate {A0 : Addr} {L L' : List Addr} {o' : O} {u : HO} (k : Ok K P G H σ env fp) (hv : σ[i]? = some (some (.ref A0))) (e : ∃ o, env[i]? = some (.wr o)) (hf : fp i = A0 :: L) (r : Ro K G (upd H A0 u) (.ref A0) o' (A0 :: L'))
    (nd : (A0 :: L').Nodup) (off : ∀ a ∈ L', a ∈ L ∨ (¬ Own env fp a ∧ G a = none ∧ ¬ Pr P a)) : Ok K P G (upd H A0 u) σ (env.set i (.wr o')) (setF fp i (A0 :: L')) := by
  obtain ⟨o, e⟩ := e
  have hi : i < env.length := (List.getElem?_eq_some_iff.mp e).1
  have inI : ∀ a ∈ A0 :: L, G a = none ∧ ¬ Pr P a ∧ ∀ j q, j ≠ i → env[j]? = some (.wr q) → a ∉ fp j := fun a ha => by
    rw [← hf] at ha
    exact ⟨k.off i o a e ha, k.free i o a e ha, fun j q hj e' ha' => k.apart j i q o a hj e' e ha' ha⟩
  have k1 : Ok K P G (upd H A0 u) σ (env.set i .emp) fp := (k.drop i).updT ⟨fun ⟨j, q, e', ha⟩ => by
    obtain ⟨hj, e'⟩ := set_emp e' (by simp)
    exact (inI A0 (by simp)).2.2 j q hj e' ha, (inI A0 (by simp)).1, (inI A0 (by simp)).2.1⟩
  have k2 := k1.put (i := i) (v := .ref A0) (by rw [List.length_set]; exact hi) r nd fun a ha => by
    rcases List.mem_cons.mp ha with h | h
    · obtain ⟨q1, q2, q3⟩ := inI A0 (by simp)
      subst h
      exact ⟨q1, q2, fun j q hj e' => q3 j q hj (set_emp e' (by simp)).2⟩
    · rcases off a h with h | ⟨h1, h2, h3⟩
      · obtain ⟨q1, q2, q3⟩ := inI a (List.mem_cons_of_mem _ h)
        exact ⟨q1, q2, fun j q hj e' => q3 j q hj (set_emp e' (by simp)).2⟩
      · exact ⟨h2, h3, fun j q hj e' ha' => h1 ⟨j, q, (set_emp e' (by simp)).2, ha'⟩⟩
  rw [set_same hv, List.set_set] at k2
  exact k2
/-- the slot's root -/
theorem Ok.root {os : List O} (k : Ok K P G H σ env fp) (e : env[i]? = some (.wr (.own os))) : ∃ A0 vs L, σ[i]? = some (some (.ref A0)) ∧ H A0 = some (.lst vs) ∧ Ros K G H vs os L ∧ fp i = A0 :: L ∧ (A0 :: L).Nodup := by
  obtain ⟨v, hv, r⟩ := k.wr i _ e
  have nd := k.nd i _ e
  generalize hf : fp i = FF at r nd
  cases r with
  | own h1 h2 => exact ⟨_, _, _, hv, h1, h2, rfl, nd⟩
theorem Ok.rootD {os : List (Key × O)} (k : Ok K P G H σ env fp) (e : env[i]? = some (.wr (.odic os))) : ∃ A0 vs L, σ[i]? = some (some (.ref A0)) ∧ H A0 = some (.dK vs) ∧ Rok K G H vs os L ∧ fp i = A0 :: L ∧ (A0 :: L).Nodup := by
  obtain ⟨v, hv, r⟩ := k.wr i _ e
  have nd := k.nd i _ e
  generalize hf : fp i = FF at r nd
  cases r with
  | odic h1 h2 => exact ⟨_, _, _, hv, h1, h2, rfl, nd⟩
/-- what the step is -/
theorem stp_mutate {A0 : Addr} {L L' : List Addr} {B : List Addr} {o' : O} {u : HO} (e : ∃ o, env[i]? = some (.wr o)) (hf : fp i = A0 :: L) (sub : ∀ a ∈ L', a ∈ L ∨ a ∈ B) : Stp G H (fun a => Own env fp a ∨ a ∈ B) G (upd H A0 u) (Own (env.set i (.wr o')) (setF fp i (A0 :: L'))) := by
  obtain ⟨o, e⟩ := e
  have own : Own env fp A0 := ⟨i, o, e, by rw [hf]; simp⟩
  refine ⟨Sub.refl _, fun a w h n => ?_, fun a h => ?_, fun _ _ h => .inl h⟩
  · rw [upd_ne fun q => n (by rw [q]; exact .inl own)]; exact h
  · rcases own_put h with h | h
    · exact .inl (.inl h)
    · rcases List.mem_cons.mp h with h | h
      · subst h; exact .inl (.inl own)
      · rcases sub a h with h | h
        · exact .inl (.inl ⟨i, o, e, by rw [hf]; exact List.mem_cons_of_mem _ h⟩)
        · exact .inl (.inr h)
end
/-- a list's method that changes it: its items and the arguments; what it is then, what is handed back -/
abbrev ML := List O → List O → Option (List O × D)
def MutL (K : PySem.W.Frag) (f : ML) (r : V → List V → Hp → VK → Prop) : Prop :=
  ∀ (G H : Hp) (a : Addr) (vs ws : List V) (xs as xs' : List O) (d : D) (C B : List Addr) (Q : VK), Sub G H → H a = some (.lst vs) → Ros K G H vs xs C → Ros K G H ws as B → (C ++ B).Nodup → a ∉ C ++ B → f xs as = some (xs', d) →
    ∃ vs' C', Ros K G H vs' xs' C' ∧ C'.Nodup ∧ (∀ x ∈ C', x ∈ C ∨ x ∈ B) ∧ ((∀ v, Dq K G v d → Q v (upd H a (.lst vs'))) → r (.ref a) ws H Q)
@[simp] def mMeth (i : Nat) (f : ML) (ms : MA) : ME := fun env => match env[i]? with
  | some (.wr (.own _)) => (ms env).bind fun r => (takes takeV r.1 r.2).bind fun s => (match s.2[i]? with
    | some (.wr (.own xs)) => (f xs s.1).bind fun q => some (.tmp (.val q.2), s.2.set i (.wr (.own q.1)))
    | _ => none)
  | _ => none
section
variable {X : Cx} {e : Expr} {es : List Expr} {x name : Str} {pos apos cpos : Pos} {i : Nat} {f : ML} {ms : MA} {id : String} {r : V → List V → Hp → VK → Prop}
theorem meth_seq {K : PySem.W.Frag} (hf : MutL K f r) {σ : L2.St} {H : Hp} {Q : VK} (q : tN K (mMeth i f ms) σ H Q) : tVar i σ H fun x H1 => tyV K "list" x H1 ∧ tNs K ms σ H1 fun xs H2 => r x xs H2 Q := by
  obtain ⟨P, G, env, fp, p, env', k, hm, c⟩ := q
  unfold mMeth at hm
  split at hm
  case h_2 => cases hm
  case h_1 xs0 e0 =>
  simp only [Option.bind_eq_some_iff] at hm
  obtain ⟨⟨ops, e1⟩, z, ⟨as, e2⟩, z2, hm⟩ := hm
  obtain ⟨A0, vs0, L0, hv0, h0, _, _, _⟩ := k.root e0
  refine ⟨.ref A0, hv0, .inl ⟨rfl, vs0, SqL.of h0⟩, P, G, env, fp, ops, e1, k, z, fun ws G1 H1 fp1 B s1 k1 t1 => ?_⟩
  obtain ⟨G2, fp2, B2, ge, frz, k2, rs, nd, off, sub, own⟩ := takes_ok takeV_ok k1 t1 z2
  split at hm
  · rename_i xs e3
    have e3 : e2[i]? = some (.wr (.own xs)) := e3
    simp only [Option.bind_eq_some_iff] at hm
    obtain ⟨⟨xs', d⟩, hfx, hm⟩ := hm
    cases hm
    obtain ⟨A1, vs1, C, hv1, h1, ros1, hfp, ndC⟩ := k2.root e3
    rw [hv0] at hv1
    cases hv1
    have aB : ∀ a ∈ B2, a ∉ A0 :: C := fun a ha hc => (off a ha).1 ⟨i, _, e3, by rw [hfp]; exact hc⟩
    have ndCB : (C ++ B2).Nodup := List.nodup_append.mpr ⟨(List.nodup_cons.mp ndC).2, nd, fun a ha b hb e => (by subst e; exact aB a hb (List.mem_cons_of_mem _ ha))⟩
    have nA : A0 ∉ C ++ B2 := fun h => (List.mem_append.mp h).elim (List.nodup_cons.mp ndC).1 fun h => aB A0 h (by simp)
    obtain ⟨vs', C', ros', nd', sub', fin⟩ := hf G2 H1 A0 vs1 ws xs as xs' d C B2 Q k2.sub h1 ros1 rs ndCB nA hfx
    refine fin fun v dv => ?_
    have nA' : A0 ∉ C' := fun h => nA (List.mem_append.mpr (sub' A0 h))
    have rr : Ro K G2 (upd H1 A0 (.lst vs')) (.ref A0) (.own xs') (A0 :: C') := .own upd_same (ros_mono (Sub.refl _) _ _ _ (fun a ha => upd_ne fun h => nA' (by rw [← h]; exact ha)) ros')
    have k3 := k2.mutate hv0 ⟨_, e3⟩ hfp rr (List.nodup_cons.mpr ⟨nA', nd'⟩) fun a ha => (sub' a ha).imp id fun h => off a h
    have s2 : Stp G1 H1 (fun a => Own e1 fp1 a ∨ a ∈ B) G2 H1 (fun a => Own e2 fp2 a ∨ a ∈ B2) := ⟨ge, fun _ _ h _ => h, fun a h => h.elim (fun h => .inl (.inl (own a h))) fun h => .inl ((sub a h).symm), fun a u h => (frz a u h).imp id .inl⟩
    have s3 := stp_mutate (G := G2) (H := H1) (u := .lst vs') (o' := .own xs') ⟨_, e3⟩ hfp sub'
    refine c v G2 _ _ [] (((s1.trans s2).trans s3).less fun a h => h.elim id fun h => nomatch h) k3 (k3.extTmp (Ext.refl k3.sub) (.val dv))
  · cases hm
theorem ve_meth (pa : PlainAttrs "list") (slot : Slot "list" name id) (hty : typeOf (.builtin id) = pure (.type "method_descriptor")) (hm : MtR X id r) (hf : MutL X.K f r) (ho : PE X (.Name x pos) (tVar i)) (ha : VA X (e :: es) ms)
    (hbase : attributeBase (.Name x pos) name X.env (eval (.Name x pos) X.env) = eval (.Name x pos) X.env := by rfl)
    (hfew : ((backTo cpos (starEach (e :: es) X.env)).all (fun x => !x.1) && (backToKw cpos (keywordEach [] X.env)).all (fun x => x.1.isSome)
      && decide ((e :: es).length + ([] : List Keyword).length + (if ([] : List Keyword).isEmpty then 0 else 1) < 30)) = true := by rfl)
    (hline : (apos.endLine == cpos.line) = true := by rfl) (hs : starEach (e :: es) X.env = (false, eval e X.env) :: starEach es X.env := by rfl) (hplain : (backTo cpos (starEach es X.env)).any (·.1) = false := by rfl) :
    VE X (.Call (.Attribute (.Name x pos) name apos) (e :: es) [] cpos) (mMeth i f ms) :=
  PE.imp (pe_bm pa slot hty hm ho ha hbase hfew hline hs hplain) fun _ _ _ q => meth_seq hf q
theorem ve_meth0 (pa : PlainAttrs "list") (slot : Slot "list" name id) (hty : typeOf (.builtin id) = pure (.type "method_descriptor")) (hm : MtR X id r) (hf : MutL X.K f r) (ho : PE X (.Name x pos) (tVar i))
    (hbase : attributeBase (.Name x pos) name X.env (eval (.Name x pos) X.env) = eval (.Name x pos) X.env := by rfl) (hline : (apos.endLine == cpos.line) = true := by rfl) :
    VE X (.Call (.Attribute (.Name x pos) name apos) [] [] cpos) (mMeth i f mNil) :=
  PE.imp (pe_bm0 pa slot hty hm ho hbase hline) fun _ _ _ q => by
    obtain ⟨v, h1, h2, h3⟩ := meth_seq hf q
    exact ⟨v, h1, h2, of_nil h3⟩
end

/-! ### the list's methods -/
@[simp] def lAppend : ML := fun xs as => match as with
  | [o] => if xs.length < sizeLine then some (xs ++ [o], .none) else none
  | _ => none
theorem ros_one {K : PySem.W.Frag} {G H : Hp} {ws : List V} {o : O} {B : List Addr} (h : Ros K G H ws [o] B) : ∃ w, ws = [w] ∧ Ro K G H w o B := by
  cases h with
  | cons h1 h2 =>
    cases h2
    exact ⟨_, rfl, by rw [List.append_nil]; exact h1⟩
theorem lAppend_ok {K : PySem.W.Frag} : MutL K lAppend rAppend := by
  intro G H a vs ws xs as xs' d C B Q sub hH rx ra nd na hf
  unfold lAppend at hf
  split at hf
  · split at hf
    · rename_i o hl
      cases hf
      obtain ⟨w, rfl, r⟩ := ros_one ra
      exact ⟨vs ++ [w], C ++ B, ros_snoc rx r, nd, fun x h => List.mem_append.mp h, fun k => ⟨a, vs, w, rfl, rfl, hH, by rw [ros_len rx]; exact hl, k .non .non⟩⟩
    · cases hf
  · cases hf
theorem ros_vals_inv {K : PySem.W.Frag} {G H : Hp} {os : List O} {ds : List D} {vs : List V} {A : List Addr} (h : Ros K G H vs os A) (e : vals os = some ds) : DqAll K G vs ds ∧ A = [] := by
  obtain rfl := vals_eq e
  exact ros_vals h
/-- xs.pop(): the last item, frozen data -/
def lPop : ML := fun xs as => match as, xs.reverse with
  | [], .val d :: r => some (r.reverse, d)
  | _, _ => none
theorem ros_unsnoc {K : PySem.W.Frag} {G H : Hp} {o : O} : ∀ {os : List O} {vs : List V} {A : List Addr}, Ros K G H vs (os ++ [o]) A → ∃ ws w B C, vs = ws ++ [w] ∧ A = B ++ C ∧ Ros K G H ws os B ∧ Ro K G H w o C
  | [], vs, A, h => by
    obtain ⟨w, rfl, r⟩ := ros_one h
    exact ⟨[], w, [], A, rfl, rfl, .nil, r⟩
  | o' :: os, vs, A, h => by
    cases h with
    | @cons v _ A1 vs' _ B1 h1 h2 =>
      obtain ⟨ws, w, B, C, rfl, rfl, h3, h4⟩ := ros_unsnoc h2
      exact ⟨v :: ws, w, A1 ++ B, C, rfl, by rw [List.append_assoc], .cons h1 h3, h4⟩
theorem lPop_ok {K : PySem.W.Frag} : MutL K lPop rPop := by
  intro G H a vs ws xs as xs' d C B Q sub hH rx ra nd na hf
  unfold lPop at hf
  split at hf
  · rename_i d' r e
    cases hf
    cases ra
    have e2 : xs = r.reverse ++ [.val d] := by
      have := congrArg List.reverse e
      rw [List.reverse_reverse] at this
      rw [this]; simp
    subst e2
    obtain ⟨ws, w, B1, C1, rfl, rfl, h3, h4⟩ := ros_unsnoc rx
    obtain ⟨h5, rfl⟩ := ro_val_inv h4
    simp only [List.append_nil] at nd ⊢
    refine ⟨ws, B1, h3, nd, fun x h => .inl h, fun k => ⟨a, ws ++ [w], w, rfl, rfl, hH, by simp, ?_⟩⟩
    rw [List.dropLast_concat]
    exact k w h5
  · cases hf
/-- xs.extend(ys) -/
def lExt : ML := fun xs as => match as with
  | [o] => (itemsO o).bind fun ds => if xs.length + ds.length ≤ sizeLine then some (xs ++ ds.map .val, .none) else none
  | _ => none

/-! ### o[i] = v -/
def rSetD : V → V → V → Hp → (Hp → Prop) → Prop := fun o i v H Q => ∃ a H', o = .ref a ∧ DPut H a i v H' ∧ Q H'
theorem set_dict {X : Cx} (hu : X.A.units + 1 < cLine) : PSet X rSetD := by
  intro pins s σ H o i v ov iv u Q I r1 r2 r3 h
  obtain ⟨a, H', rfl, g, q⟩ := h
  obtain rfl : ov = Value.ref a := r1
  exact d_setItem hu I g r2 r3 fun s4 I4 => ⟨H', I4, q⟩
def rSetA : V → V → V → Hp → (Hp → Prop) → Prop := fun o i v H Q => rSetL o i v H Q ∨ rSetD o i v H Q
theorem set_any {X : Cx} (hu : X.A.units + 1 < cLine) : PSet X rSetA := by
  intro pins s σ H o i v ov iv u Q I r1 r2 r3 h
  rcases h with h | h
  · exact set_list pins s σ H o i v ov iv u Q I r1 r2 r3 h
  · exact set_dict hu pins s σ H o i v ov iv u Q I r1 r2 r3 h
@[simp] def keyO : O → Option Key
  | .val (.int i) => some (.inl i)
  | .val (.str s) => some (.inr s)
  | _ => none
theorem keyO_eq {K : PySem.W.Frag} {G H : Hp} {v : V} {o : O} {k : Key} (w : View K G H v o) (h : keyO o = some k) : v = kV k := by
  obtain ⟨B, r⟩ := w
  cases o with
  | val d =>
    obtain ⟨r, _⟩ := ro_val_inv r
    cases d with
    | int i => cases h; cases r; rfl
    | str s => cases h; cases r; rfl
    | _ => cases h
  | _ => cases h
def putO (kvs : List (Key × O)) (k : Key) (o : O) : List (Key × O) :=
  if (kvs.any fun kv => decide (kv.1 = k)) = true then kvs.map (fun kv => if kv.1 = k then (kv.1, o) else kv) else kvs ++ [(k, o)]
def getO (kvs : List (Key × O)) (k : Key) : Option O := (kvs.find? fun kv => decide (kv.1 = k)).map (·.2)
theorem rok_any {K : PySem.W.Frag} {G H : Hp} {k : Key} : ∀ {os : List (Key × O)} {vs : List (Key × V)} {A : List Addr}, Rok K G H vs os A → (vs.any fun kv => decide (kv.1 = k)) = os.any fun kv => decide (kv.1 = k)
  | [], vs, A, h => by cases h; rfl
  | o :: os, vs, A, h => by cases h with | cons h1 h2 => simp only [List.any_cons]; rw [rok_any h2]
theorem rok_put {K : PySem.W.Frag} {G H : Hp} {k : Key} {v : V} {d : D} (r : Dq K G v d) : ∀ {os : List (Key × O)} {vs : List (Key × V)} {A : List Addr}, Rok K G H vs os A → A.Nodup → ∃ C, Rok K G H (putK vs k v) (putO os k (.val d)) C ∧ C.Nodup ∧ ∀ a ∈ C, a ∈ A := by
  have mapped : ∀ {os : List (Key × O)} {vs : List (Key × V)} {A : List Addr}, Rok K G H vs os A → A.Nodup → ∃ C, Rok K G H (vs.map fun kv => if kv.1 = k then (kv.1, v) else kv) (os.map fun kv => if kv.1 = k then (kv.1, O.val d) else kv) C ∧ C.Nodup ∧ ∀ a ∈ C, a ∈ A := by
    intro os
    induction os with
    | nil => intro vs A h nd; cases h; exact ⟨[], .nil, nd, fun _ h => h⟩
    | cons o os ih =>
      intro vs A h nd
      cases h with
      | @cons q _ _ A1 _ _ B1 h1 h2 =>
        have nds := List.nodup_append.mp nd
        obtain ⟨C, h3, h4, h5⟩ := ih h2 nds.2.1
        simp only [List.map_cons]
        by_cases e : q = k
        · rw [if_pos e, if_pos e]
          exact ⟨[] ++ C, .cons (.val r) h3, by simpa using h4, fun a ha => List.mem_append_right _ (h5 a (by simpa using ha))⟩
        · rw [if_neg e, if_neg e]
          refine ⟨A1 ++ C, .cons h1 h3, List.nodup_append.mpr ⟨nds.1, h4, fun a ha b hb => nds.2.2 a ha b (h5 b hb)⟩, fun a ha => ?_⟩
          rcases List.mem_append.mp ha with ha | ha
          · exact List.mem_append_left _ ha
          · exact List.mem_append_right _ (h5 a ha)
  have snoc : ∀ {os : List (Key × O)} {vs : List (Key × V)} {A : List Addr}, Rok K G H vs os A → Rok K G H (vs ++ [(k, v)]) (os ++ [(k, O.val d)]) A := by
    intro os
    induction os with
    | nil => intro vs A h; cases h; exact .cons (A := []) (.val r) .nil
    | cons o os ih =>
      intro vs A h
      cases h with
      | cons h1 h2 => exact .cons h1 (ih h2)
  intro os vs A h nd
  unfold putK putO
  rw [rok_any h]
  by_cases e : (os.any fun kv => decide (kv.1 = k)) = true
  · rw [if_pos e, if_pos e]; exact mapped h nd
  · rw [if_neg e, if_neg e]; exact ⟨A, snoc h, nd, fun _ h => h⟩
theorem rok_get {K : PySem.W.Frag} {G H : Hp} {k : Key} : ∀ {os : List (Key × O)} {vs : List (Key × V)} {A : List Addr}, Rok K G H vs os A → (getO os k = none → valV vs k = none) ∧ ∀ o, getO os k = some o → ∃ v, valV vs k = some v ∧ View K G H v o
  | [], vs, A, h => by cases h; exact ⟨fun _ => rfl, fun o e => by cases e⟩
  | o :: os, vs, A, h => by
    cases h with
    | @cons q _ oq _ _ _ _ h1 h2 =>
      obtain ⟨a, b⟩ := rok_get (k := k) h2
      by_cases e : q = k
      · subst e
        refine ⟨fun h => ?_, fun o h => ?_⟩
        · simp [getO, List.find?_cons] at h
        · simp [getO, List.find?_cons] at h
          subst h
          exact ⟨_, valV_pos (p := (q, _)) rfl, _, h1⟩
      · have g : getO ((q, oq) :: os) k = getO os k := by simp [getO, List.find?_cons, e]
        refine ⟨fun h => ?_, fun o h => ?_⟩
        · rw [valV_neg (p := (q, _)) e]; exact a (by rw [← g]; exact h)
        · rw [valV_neg (p := (q, _)) e]; exact b o (by rw [← g]; exact h)
/-- the slot's content behind o[k] = v -/
@[simp] def setO (c k o : O) : Option O := match c with
  | .own xs => (asInt k).bind fun i => (ixN xs.length i).bind fun j => some (.own (xs.set j o))
  | .odic kvs => match o with
    | .val d => (keyO k).bind fun q => if kvs.length < sizeLine then some (.odic (putO kvs q (.val d))) else none
    | _ => none
  | .val _ => none
@[simp] def mStore (i : Nat) (me mi : ME) : MS := fun env => (me env).bind fun r => (look (.slot i) r.2).bind fun _ => (mi r.2).bind fun s => (takeV r.1 s.2).bind fun t => (look s.1 t.2).bind fun k => match t.2[i]? with
  | some (.wr c) => (setO c k t.1).bind fun c' => some (.nx (t.2.set i (.wr c')))
  | _ => none
theorem ros_set {K : PySem.W.Frag} {G H : Hp} {v : V} {o : O} {B : List Addr} (r : Ro K G H v o B) : ∀ {os : List O} {vs : List V} {A : List Addr} (j : Nat), Ros K G H vs os A → (A ++ B).Nodup → j < os.length → ∃ C, Ros K G H (vs.set j v) (os.set j o) C ∧ C.Nodup ∧ ∀ a ∈ C, a ∈ A ∨ a ∈ B
  | [], vs, A, j, h, nd, hj => by simp at hj
  | o' :: os, vs, A, 0, h, nd, hj => by
    cases h with
    | @cons _ _ A1 _ _ B1 h1 h2 =>
      have n1 := List.nodup_append.mp nd
      have n2 := List.nodup_append.mp n1.1
      exact ⟨B ++ B1, .cons r h2, List.nodup_append.mpr ⟨n1.2.1, n2.2.1, fun a ha b hb e => n1.2.2 b (List.mem_append_right _ hb) a ha e.symm⟩, fun a ha => (List.mem_append.mp ha).elim .inr fun h => .inl (List.mem_append_right _ h)⟩
  | o' :: os, vs, A, j + 1, h, nd, hj => by
    cases h with
    | @cons _ _ A1 _ _ B1 h1 h2 =>
      have n1 := List.nodup_append.mp nd
      have n2 := List.nodup_append.mp n1.1
      obtain ⟨C, h3, h4, h5⟩ := ros_set r j h2 (List.nodup_append.mpr ⟨n2.2.1, n1.2.1, fun a ha b hb => n1.2.2 a (List.mem_append_right _ ha) b hb⟩) (by simpa using hj)
      refine ⟨A1 ++ C, .cons h1 h3, List.nodup_append.mpr ⟨n2.1, h4, fun a ha b hb e => ?_⟩, fun a ha => ?_⟩
      · subst e
        rcases h5 a hb with q | q
        · exact n2.2.2 a ha a q rfl
        · exact n1.2.2 a (List.mem_append_left _ ha) a q rfl
      · rcases List.mem_append.mp ha with ha | ha
        · exact .inl (List.mem_append_left _ ha)
        · exact (h5 a ha).imp (List.mem_append_right _) id
theorem ixN_lt {n : Nat} {i : Int} {j : Nat} (h : ixN n i = some j) : j < n := (ixN_seq h).2.1
/-- a slot's content changes by a store -/
theorem set_step {K : PySem.W.Frag} {P : Pt} {G H : Hp} {σ : L2.St} {env : Env} {fp : Fp} {i : Nat} {c ko o c' : O} {v y : V} {B : List Addr} {Q : Hp → Prop} (k : Ok K P G H σ env fp) (e : env[i]? = some (.wr c)) (r : Ro K G H v o B) (nd : B.Nodup) (off : ∀ a ∈ B, ¬ Own env fp a ∧ G a = none ∧ ¬ Pr P a)
    (wk : View K G H y ko) (h : setO c ko o = some c') {x : V} (hx : σ[i]? = some (some x)) (fin : ∀ H' fp', Stp G H (fun a => Own env fp a ∨ a ∈ B) G H' (Own (env.set i (.wr c')) fp') → Ok K P G H' σ (env.set i (.wr c')) fp' → Q H') : rSetA x y v H Q := by
  cases c with
  | val d => cases h
  | own xs =>
    simp only [setO, Option.bind_eq_some_iff] at h
    obtain ⟨q, hq, j, hj, h⟩ := h
    cases h
    obtain rfl := asInt_eq hq
    obtain ⟨A0, vs, L, hv, hH, rs, hfp, ndL⟩ := k.root e
    rw [hx] at hv; cases hv
    have aB : ∀ a ∈ B, a ∉ A0 :: L := fun a ha hc => (off a ha).1 ⟨i, _, e, by rw [hfp]; exact hc⟩
    obtain ⟨C, h3, h4, h5⟩ := ros_set r j rs (List.nodup_append.mpr ⟨(List.nodup_cons.mp ndL).2, nd, fun a ha b hb e => (by subst e; exact aB a hb (List.mem_cons_of_mem _ ha))⟩) (ixN_lt hj)
    have nA : A0 ∉ C := fun h => (h5 A0 h).elim (List.nodup_cons.mp ndL).1 fun h => aB A0 h (by simp)
    have rr : Ro K G (upd H A0 (.lst (vs.set j v))) (.ref A0) (.own (xs.set j o)) (A0 :: C) := .own upd_same (ros_mono (Sub.refl _) _ _ _ (fun a ha => upd_ne fun h => nA (by rw [← h]; exact ha)) h3)
    exact .inl ⟨A0, vs, q, j, rfl, view_int wk, hH, by rw [ros_len rs]; exact hj, fin _ _ (stp_mutate ⟨_, e⟩ hfp h5) (k.mutate hx ⟨_, e⟩ hfp rr (List.nodup_cons.mpr ⟨nA, h4⟩) fun a ha => (h5 a ha).imp id (off a))⟩
  | odic kvs =>
    simp only [setO] at h
    split at h
    · rename_i d
      simp only [Option.bind_eq_some_iff] at h
      obtain ⟨q, hq, h⟩ := h
      split at h
      · rename_i hz
        cases h
        obtain ⟨r', rfl⟩ := ro_val_inv r
        obtain ⟨A0, vs, L, hv, hH, rs, hfp, ndL⟩ := k.rootD e
        rw [hx] at hv; cases hv
        obtain ⟨C, h3, h4, h5⟩ := rok_put (k := q) r' rs (List.nodup_cons.mp ndL).2
        have nA : A0 ∉ C := fun h => (List.nodup_cons.mp ndL).1 (h5 A0 h)
        have rr : Ro K G (upd H A0 (.dK (putK vs q v))) (.ref A0) (.odic (putO kvs q (.val d))) (A0 :: C) := .odic upd_same (rok_mono (Sub.refl _) _ _ _ (fun a ha => upd_ne fun h => nA (by rw [← h]; exact ha)) h3)
        refine .inr ⟨A0, _, rfl, ?_, fin _ _ (stp_mutate (L' := C) ⟨_, e⟩ hfp fun a ha => .inl (h5 a ha)) (k.mutate hx ⟨_, e⟩ hfp rr (List.nodup_cons.mpr ⟨nA, h4⟩) fun a ha => .inl (h5 a ha))⟩
        rw [keyO_eq wk hq]
        exact DPut.k hH (by rw [rok_len rs]; exact hz)
      · cases h
    · cases h
section
variable {X : Cx} {io : IO} {e ix : Expr} {x : Str} {pos p px : Pos} {i : Nat} {me mi : ME}
theorem vs_store (hu : X.A.units + 1 < cLine) (he : VE X e me) (ho : PE X (.Name x px) (tVar i)) (hi : VE X ix mi)
    (ha : ∀ v, assign (.Subscript (.Name x px) ix p) X.env v = (do
      let ov ← holding [v] (eval (.Name x px) X.env)
      let iv ← holding [v, ov] (eval ix X.env)
      standAt p
      holding [v, ov, iv] (setItem ov iv v)
      release [v, ov, iv] []) := by intro _; rfl)
    (hs : swapsWithSole [.Subscript (.Name x px) ix p] e pos.line X.env = pure false := by rfl) (hw : swappedStores [.Subscript (.Name x px) ix p] e X.env = pure none := by rfl) (h1 : (assignEach [.Subscript (.Name x px) ix p] X.env).map (·.2) = [assign (.Subscript (.Name x px) ix p) X.env] := by rfl) :
    VS X io (.Assign [.Subscript (.Name x px) ix p] e pos) (mStore i me mi) := by
  refine PS.imp (ps_asg he (pg_sub ho hi (set_any hu) ha) hs hw h1) fun D σ H q => ?_
  obtain ⟨P, G, env, fp, c, k, hm, h⟩ := q
  simp only [mStore, Option.bind_eq_some_iff] at hm
  obtain ⟨⟨p1, e1⟩, z1, o1, z2, ⟨p2, e2⟩, z3, ⟨ov, e3⟩, z4, ko, z5, hm⟩ := hm
  split at hm
  · rename_i cc e4
    have e4 : e3[i]? = some (.wr cc) := e4
    simp only [Option.bind_eq_some_iff] at hm
    obtain ⟨c', z6, hm⟩ := hm
    cases hm
    refine ⟨P, G, env, fp, p1, e1, k, z1, fun v G1 H1 fp1 B1 s1 k1 t1 => ?_⟩
    obtain ⟨xv, hxv⟩ := k1.slot z2
    refine ⟨xv, hxv, P, G1, e1, fp1, p2, e2, k1, z3, fun y G2 H2 fp2 B2 s2 k2 t2 => ?_⟩
    have t1' := t1.step s2
    have tt := t1'.cons t2 fun _ h => h
    obtain ⟨G3, fp3, B3, C3, x3⟩ := takeV_ok k2 tt z4
    have wk := one_view x3.ok x3.rest z5
    have off3 : ∀ a ∈ B3, ¬ Own e3 fp3 a ∧ G3 a = none ∧ ¬ Pr P a := fun a ha => ⟨(x3.off a ha).1, (x3.off a ha).2.1, (x3.off a ha).2.2.1⟩
    refine set_step x3.ok e4 x3.ro x3.nd off3 wk z6 hxv fun H' fp' s4 k4 => ?_
    have s2' : Stp G1 H1 (fun a => Own e1 fp1 a ∨ a ∈ B1) G2 H2 (fun a => Own e2 fp2 a ∨ a ∈ B1 ++ B2) := (s2.frame (fun a => a ∈ B1)).less fun a h => h.elim (fun h => .inl (.inl h)) fun h => (List.mem_append.mp h).elim .inr fun h => .inl (.inr h)
    have s3 : Stp G2 H2 (fun a => Own e2 fp2 a ∨ a ∈ B1 ++ B2) G3 H2 (fun a => Own e3 fp3 a ∨ a ∈ B3) := ⟨x3.ge, fun _ _ h _ => h, fun a h => h.elim (fun h => .inl (.inl (x3.own a h))) fun h => .inl ((x3.sub a (.inl h)).symm), fun a u h => (x3.frz a u h).imp id .inl⟩
    exact h G3 H' σ fp' ⟨((s1.trans s2').trans s3).trans s4, Kio.refl _ _, k4⟩
  · cases hm
end
end Pv

namespace Pv
open PySem PySem.Spec PyProof.Rows L2

/-! ### sights of values -/
section
variable {K : PySem.W.Frag} {G H : Hp} {v : V} {o : O}
theorem view_dq (w : View K G H v o) (s : Sub G H) {d : D} (h : o.toD = some d) : Dq K H v d := by
  obtain ⟨B, r⟩ := w
  exact ro_toD s o v B d (fun _ _ => rfl) r h
theorem view_val {d : D} (w : View K G H v (.val d)) : Dq K G v d := by
  obtain ⟨B, r⟩ := w
  exact (ro_val_inv r).1
theorem view_str {x : Str} (w : View K G H v (.val (.str x))) : v = .str x := by cases view_val w; rfl
theorem view_bool {b : Bool} (w : View K G H v (.val (.bool b))) : v = .bl b := by cases view_val w; rfl
theorem view_none (w : View K G H v (.val .none)) : v = .non := by cases view_val w; rfl
def itemsL : O → Option (List D)
  | .val (.list ds) => some ds
  | .own os => vals os
  | _ => none
@[simp] theorem itemsL_own (ds : List D) : itemsL (.own (ds.map .val)) = some ds := by simp [itemsL]
@[simp] theorem itemsL_list (ds : List D) : itemsL (.val (.list ds)) = some ds := rfl
@[simp] theorem itemsO_own (ds : List D) : itemsO (.own (ds.map .val)) = some ds := by simp [itemsO]
theorem view_list (w : View K G H v o) (s : Sub G H) {ds : List D} (h : itemsL o = some ds) : ∃ a vs, v = .ref a ∧ SqK K H a vs ∧ DqAll K G vs ds := by
  obtain ⟨B, r⟩ := w
  cases r with
  | val r =>
    cases r with
    | lst h1 h2 => cases h; exact ⟨_, _, rfl, sqk_mono s h1, h2⟩
    | _ => cases h
  | own h1 h2 =>
    obtain ⟨h3, _⟩ := ros_vals_inv h2 h
    exact ⟨_, _, rfl, .inl (.inl h1), h3⟩
  | odic => cases h
theorem view_tup {ds : List D} (w : View K G H v (.val (.tuple ds))) (s : Sub G H) : ∃ a vs, v = .ref a ∧ SqT K H a vs ∧ DqAll K G vs ds := by
  cases view_val w with
  | tup h1 h2 => exact ⟨_, _, rfl, sqt_mono s h1, h2⟩
theorem view_seq (w : View K G H v o) (s : Sub G H) {ds : List D} (h : itemsO o = some ds) : ∃ a vs, v = .ref a ∧ (SqL K H a vs ∨ SqT K H a vs) ∧ DqAll K G vs ds := by
  obtain ⟨B, r⟩ := w
  cases r with
  | val r =>
    cases r with
    | lst h1 h2 => cases h; exact ⟨_, _, rfl, .inl (sqk_mono s h1).l, h2⟩
    | tup h1 h2 => cases h; exact ⟨_, _, rfl, .inr (sqt_mono s h1), h2⟩
    | _ => cases h
  | own h1 h2 =>
    obtain ⟨h3, _⟩ := ros_vals_inv h2 h
    exact ⟨_, _, rfl, .inl (SqL.of h1), h3⟩
  | odic => cases h
end
section
variable {K : PySem.W.Frag} {G H : Hp} {Q : VK}
/-- ends of pure operations -/
theorem fin_val {o : O} {v : V} {d : D} (s : Sub G H) (k : ∀ v G' H' B, Ext G H G' H' B → Ro K G' H' v o B → Q v H') (h : o = .val d) (r : Dq K G v d) : Q v H := by
  subst h
  exact k v G H [] (Ext.refl s) (.val r)
theorem fin_lst {o : O} {vs : List V} {ds : List D} (s : Sub G H) (k : ∀ v G' H' B, Ext G H G' H' B → Ro K G' H' v o B → Q v H') (h : o = .own (ds.map .val)) (r : DqAll K G vs ds) : ∀ p, H p = none → Q (.ref p) (upd H p (.lst vs)) := by
  subst h
  exact fun p np => k (.ref p) G _ [p] (Ext.new s np) (.own upd_same (vals_ros r))
theorem fin_tup {o : O} {vs : List V} {ds : List D} (s : Sub G H) (k : ∀ v G' H' B, Ext G H G' H' B → Ro K G' H' v o B → Q v H') (h : o = .val (.tuple ds)) (r : DqAll K G vs ds) : ∀ p, H p = none → Q (.ref p) (upd H p (.tup vs)) := by
  subst h
  exact fun p np => by
    have x : Ext G H (upd G p (.tup vs)) (upd H p (.tup vs)) [] := Ext.newF s np
    exact k (.ref p) _ _ [] x (.val (.tup (SqT.of upd_same) (dps_mono x.ge _ _ r)))
theorem dqs_append {G : Hp} : ∀ {xs ys : List D} {vs ws : List V}, DqAll K G vs xs → DqAll K G ws ys → DqAll K G (vs ++ ws) (xs ++ ys)
  | [], ys, vs, ws, h, h' => by cases h; exact h'
  | x :: xs, ys, vs, ws, h, h' => by cases h with | cons h1 h2 => exact .cons h1 (dqs_append h2 h')
theorem dqs_take {G : Hp} : ∀ {xs : List D} {vs : List V} (n : Nat), DqAll K G vs xs → DqAll K G (vs.take n) (xs.take n)
  | _, _, 0, _ => by simp; exact .nil
  | [], vs, n + 1, h => by cases h; exact .nil
  | x :: xs, vs, n + 1, h => by cases h with | cons h1 h2 => exact .cons h1 (dqs_take n h2)
theorem dqs_drop {G : Hp} : ∀ {xs : List D} {vs : List V} (n : Nat), DqAll K G vs xs → DqAll K G (vs.drop n) (xs.drop n)
  | _, _, 0, h => h
  | [], vs, n + 1, h => by cases h; exact .nil
  | x :: xs, vs, n + 1, h => by cases h with | cons h1 h2 => exact dqs_drop n h2
theorem dqs_reverse {G : Hp} : ∀ {xs : List D} {vs : List V}, DqAll K G vs xs → DqAll K G vs.reverse xs.reverse
  | [], vs, h => by cases h; exact .nil
  | x :: xs, vs, h => by cases h with | cons h1 h2 => simp only [List.reverse_cons]; exact dqs_append (dqs_reverse h2) (.cons h1 .nil)
theorem dqs_ints {G : Hp} : ∀ {is : List Int} {vs : List V}, DqAll K G vs (is.map .int) → vs = is.map V.int
  | [], vs, h => by cases h; rfl
  | i :: is, vs, h => by cases h with | cons h1 h2 => cases h1; rw [dqs_ints h2]; rfl
theorem ints_dqs {G : Hp} : ∀ {is : List Int}, DqAll K G (is.map V.int) (is.map .int)
  | [] => .nil
  | i :: is => .cons (.int i) ints_dqs
theorem two_views {vs : List V} {os : List O} {x y : O} (w : Views K G H vs os) (h : os = [x, y]) : ∃ v u, vs = [v, u] ∧ View K G H v x ∧ View K G H u y := by
  subst h
  cases w with
  | cons w1 w2 => cases w2 with | cons w3 w4 => cases w4; exact ⟨_, _, rfl, w1, w3⟩
theorem one_views {vs : List V} {os : List O} {x : O} (w : Views K G H vs os) (h : os = [x]) : ∃ v, vs = [v] ∧ View K G H v x := by
  subst h
  cases w with
  | cons w1 w2 => cases w2; exact ⟨_, rfl, w1⟩
end

/-! ### arithmetic -/
abbrev FO := List O → Option O
@[simp] def f2I (C : Int → Int → Bool) (g : Int → Int → D) : FO := fun os => match os with
  | [.val (.int i), .val (.int j)] => if C i j = true then some (.val (g i j)) else none
  | _ => none
theorem f2I_ok {K : PySem.W.Frag} {C : Int → Int → Bool} {C' : Int → Int → Prop} {g : Int → Int → D} {g' : Int → Int → V} (hC : ∀ i j, C i j = true → C' i j) (hg : ∀ i j G, C i j = true → Dq K G (g' i j) (g i j)) : PureC K (f2I C g) (l2 (rI C' g')) := by
  intro G H vs os o Q s w h k
  unfold f2I at h
  split at h
  · rename_i i j
    split at h
    · rename_i hc
      cases h
      obtain ⟨v, u, rfl, w1, w2⟩ := two_views w rfl
      exact ⟨v, u, rfl, i, j, view_int w1, view_int w2, hC i j hc, fin_val s k rfl (hg i j G hc)⟩
    · cases h
  · cases h
theorem r0 {X : Cx} {f : Value → Value → Sem Value} {g : Int → Int → V} (h : OpR X f (rI0 g)) : OpR X f (rI (fun _ _ => True) g) := by
  intro pins s σ H x y v u Q I r1 r2 ⟨i, j, e1, e2, _, q⟩
  exact h pins s σ H x y v u Q I r1 r2 ⟨i, j, e1, e2, q⟩
@[simp] def any2 : Int → Int → Bool := fun _ _ => true
@[simp] def fSub : FO := f2I any2 fun i j => .int (i - j)
theorem fSub_ok {K : PySem.W.Frag} : PureC K fSub (l2 (rI (fun _ _ => True) fun i j => .int (i - j))) := f2I_ok (fun _ _ _ => trivial) fun _ _ _ _ => .int _
def mulOk (i j : Int) : Bool := decide (i.natAbs.log2 + j.natAbs.log2 < 1000000)
def divOk (_ j : Int) : Bool := decide (0 < j) && decide (j.natAbs.log2 < 9000)
@[simp] def fDiv : FO := f2I divOk fun i j => .int (i / j)
theorem fDiv_ok {K : PySem.W.Frag} : PureC K fDiv (l2 (rI CDivW fun i j => .int (i / j))) := f2I_ok (fun i j h => by simpa [divOk, CDivW] using h) fun _ _ _ _ => .int _
@[simp] def fMod : FO := f2I (fun _ j => decide (0 < j)) fun i j => .int (i % j)
theorem fMod_ok {K : PySem.W.Frag} : PureC K fMod (l2 (rI (fun _ j => 0 < j) fun i j => .int (i % j))) := f2I_ok (fun i j h => by simpa using h) fun _ _ _ _ => .int _
def powOk (i j : Int) : Bool := decide (0 ≤ j) && decide (j ≤ 1000000) && decide (i.natAbs < 2 ^ 64)
@[simp] def fPow : FO := f2I powOk fun i j => .int (i ^ j.toNat)
theorem fPow_ok {K : PySem.W.Frag} : PureC K fPow (l2 (rI CPow fun i j => .int (i ^ j.toNat))) := f2I_ok (fun i j h => by simpa [powOk, CPow, and_assoc] using h) fun _ _ _ _ => .int _
def shlOk (i j : Int) : Bool := decide (0 ≤ j) && decide ((Builtin.Int.intBits i : Int) + j ≤ 2 ^ 27)
@[simp] def fShl : FO := f2I shlOk fun i j => .int (i * 2 ^ j.toNat)
theorem fShl_ok {K : PySem.W.Frag} : PureC K fShl (l2 (rI CShl fun i j => .int (i * 2 ^ j.toNat))) := f2I_ok (fun i j h => by simpa [shlOk, CShl] using h) fun _ _ _ _ => .int _
@[simp] def fShr : FO := f2I (fun _ j => decide (0 ≤ j)) fun i j => .int (i / 2 ^ j.toNat)
theorem fShr_ok {K : PySem.W.Frag} : PureC K fShr (l2 (rI (fun _ j => 0 ≤ j) fun i j => .int (i / 2 ^ j.toNat))) := f2I_ok (fun i j h => by simpa using h) fun _ _ _ _ => .int _
@[simp] def fAnd : FO := f2I any2 fun i j => .int (Builtin.bitAnd i j)
theorem fAnd_ok {K : PySem.W.Frag} : PureC K fAnd (l2 (rI (fun _ _ => True) fun i j => .int (Builtin.bitAnd i j))) := f2I_ok (fun _ _ _ => trivial) fun _ _ _ _ => .int _
@[simp] def fOr : FO := f2I any2 fun i j => .int (Builtin.bitOr i j)
theorem fOr_ok {K : PySem.W.Frag} : PureC K fOr (l2 (rI (fun _ _ => True) fun i j => .int (Builtin.bitOr i j))) := f2I_ok (fun _ _ _ => trivial) fun _ _ _ _ => .int _
@[simp] def fXor : FO := f2I any2 fun i j => .int (Builtin.bitXor i j)
theorem fXor_ok {K : PySem.W.Frag} : PureC K fXor (l2 (rI (fun _ _ => True) fun i j => .int (Builtin.bitXor i j))) := f2I_ok (fun _ _ _ => trivial) fun _ _ _ _ => .int _
@[simp] def fLe : FO := f2I any2 fun i j => .bool (decide (i ≤ j))
theorem fLe_ok {K : PySem.W.Frag} : PureC K fLe (l2 (rI (fun _ _ => True) fun i j => .bl (decide (i ≤ j)))) := f2I_ok (fun _ _ _ => trivial) fun _ _ _ _ => .bl _
@[simp] def fGt : FO := f2I any2 fun i j => .bool (decide (j < i))
theorem fGt_ok {K : PySem.W.Frag} : PureC K fGt (l2 (rI (fun _ _ => True) fun i j => .bl (decide (j < i)))) := f2I_ok (fun _ _ _ => trivial) fun _ _ _ _ => .bl _
@[simp] def fGe : FO := f2I any2 fun i j => .bool (decide (j ≤ i))
theorem fGe_ok {K : PySem.W.Frag} : PureC K fGe (l2 (rI (fun _ _ => True) fun i j => .bl (decide (j ≤ i)))) := f2I_ok (fun _ _ _ => trivial) fun _ _ _ _ => .bl _
@[simp] def f1I (g : Int → D) : FO := fun os => match os with
  | [.val (.int i)] => some (.val (g i))
  | _ => none
theorem f1I_ok {K : PySem.W.Frag} {g : Int → D} {g' : Int → V} (hg : ∀ i G, Dq K G (g' i) (g i)) : PureC K (f1I g) (l1 (rU g')) := by
  intro G H vs os o Q s w h k
  unfold f1I at h
  split at h
  · rename_i i
    cases h
    obtain ⟨v, rfl, w1⟩ := one_views w rfl
    exact ⟨v, rfl, i, view_int w1, fin_val s k rfl (hg i G)⟩
  · cases h
@[simp] def fNeg : FO := f1I fun i => .int (-i)
theorem fNeg_ok {K : PySem.W.Frag} : PureC K fNeg (l1 (rU fun i => .int (-i))) := f1I_ok fun _ _ => .int _
def fInv : FO := f1I fun i => .int (Builtin.bitNot i)
theorem fInv_ok {K : PySem.W.Frag} : PureC K fInv (l1 (rU fun i => .int (Builtin.bitNot i))) := f1I_ok fun _ _ => .int _

/-! ### + and * of all kinds -/
section
variable {X : Cx}
/-- lists that are read -/
def rCatR (K : PySem.W.Frag) : R2 := fun x y H Q => ∃ l b xs zs, x = .ref l ∧ y = .ref b ∧ SqK K H l xs ∧ SqK K H b zs ∧ xs.length + zs.length ≤ sizeLine ∧ ∀ p, H p = none → Q (.ref p) (upd H p (.lst (xs ++ zs)))
theorem SqK.obj {pins : List (Addr × Obj)} {σ : L2.St} {H : Hp} {s : Shared} {a : Addr} {xs : List V} (I : Inv X pins σ H s) (h : SqK X.K H a xs) : ∃ (its : List Value) (n : Nat), Vals xs its ∧ s.heap.get? a = some { cls := .type "list", data := .seq its.toArray n } := by
  rcases h with h | ⟨its, n, hk, hz, r⟩
  · obtain ⟨z, its, n, r, e⟩ := h.ok I.hok
    exact ⟨its, n, r, e⟩
  · exact ⟨its, n, r, I.kIn a _ hk⟩
theorem op_catR : OpR X (binaryOp .Add) (rCatR X.K) := by
  intro pins s σ H x y v u Q I rx ry h
  obtain ⟨l, b, xs, zs, rfl, rfl, hH, hB, hz, q⟩ := h
  cases rx
  cases ry
  obtain ⟨its, n, r, e⟩ := SqK.obj I hH
  obtain ⟨its2, n2, r2, e2⟩ := SqK.obj I hB
  have l1 := r.length
  have l2 := r2.length
  refine PySem.P.add_list e e2 ?_ (by rw [List.size_toArray, List.size_toArray]; omega)
  have ea : its.toArray ++ its2.toArray = (its ++ its2).toArray := by simp
  rw [ea]
  exact ⟨.ref _, _, I.lnew (t' := s.toks) (r.append r2) (by rw [List.length_append]; omega), rfl, q _ I.fresh⟩
def rAddA (K : PySem.W.Frag) : R2 := fun x y H Q => rI0 (fun i j => .int (i + j)) x y H Q ∨ (∃ i j : Str, x = .str i ∧ y = .str j ∧ i.length + j.length ≤ sizeLine ∧ Q (.str (i ++ j)) H) ∨ rCatA K x y H Q ∨ rCatR K x y H Q
theorem op_addA : OpR X (binaryOp .Add) (rAddA X.K) := op_add.or (op_add_str.or (op_catA.or op_catR))
@[simp] def fAdd : FO := fun os => match os with
  | [.val (.int i), .val (.int j)] => some (.val (.int (i + j)))
  | [.val (.str a), .val (.str b)] => if a.length + b.length ≤ sizeLine then some (.val (.str (a ++ b))) else none
  | [.val (.tuple xs), .val (.tuple ys)] => if xs.length + ys.length ≤ sizeLine then some (.val (.tuple (xs ++ ys))) else none
  | [x, y] => (itemsL x).bind fun xs => (itemsL y).bind fun ys => if xs.length + ys.length ≤ sizeLine then some (.own ((xs ++ ys).map .val)) else none
  | _ => none
theorem fAdd_ok {K : PySem.W.Frag} : PureC K fAdd (l2 (rAddA K)) := by
  intro G H vs os o Q s w h k
  unfold fAdd at h
  split at h
  · rename_i i j
    cases h
    obtain ⟨v, u, rfl, w1, w2⟩ := two_views w rfl
    exact ⟨v, u, rfl, .inl ⟨i, j, view_int w1, view_int w2, fin_val s k rfl (.int _)⟩⟩
  · rename_i a b
    split at h
    · rename_i hz
      cases h
      obtain ⟨v, u, rfl, w1, w2⟩ := two_views w rfl
      exact ⟨v, u, rfl, .inr (.inl ⟨a, b, view_str w1, view_str w2, hz, fin_val s k rfl (.str _)⟩)⟩
    · cases h
  · rename_i xs ys
    split at h
    · rename_i hz
      cases h
      obtain ⟨v, u, rfl, w1, w2⟩ := two_views w rfl
      obtain ⟨a, vs, rfl, h1, d1⟩ := view_tup w1 s
      obtain ⟨b, ws, rfl, h2, d2⟩ := view_tup w2 s
      refine ⟨_, _, rfl, .inr (.inr (.inl ⟨a, b, vs, ws, rfl, rfl, h1, h2, by rw [dps_len d1, dps_len d2]; exact hz, fun e => ?_, fun _ e => ?_, fun _ _ => fin_tup s k rfl (dqs_append d1 d2)⟩))⟩
      · subst e; cases d1; exact fin_val s k (by simp) (view_val w2)
      · subst e; cases d2; exact fin_val s k (by simp) (view_val w1)
    · cases h
  · rename_i x y _ _ _
    simp only [Option.bind_eq_some_iff] at h
    obtain ⟨xs, hx, ys, hy, h⟩ := h
    split at h
    · rename_i hz
      cases h
      obtain ⟨v, u, rfl, w1, w2⟩ := two_views w rfl
      obtain ⟨a, vs, rfl, h1, d1⟩ := view_list w1 s hx
      obtain ⟨b, ws, rfl, h2, d2⟩ := view_list w2 s hy
      exact ⟨_, _, rfl, .inr (.inr (.inr ⟨a, b, vs, ws, rfl, rfl, h1, h2, by rw [dps_len d1, dps_len d2]; exact hz, fin_lst s k rfl (dqs_append d1 d2)⟩))⟩
    · cases h
  · cases h
/-- list * int, tuple * int (from 2 on) -/
def rMulA (K : PySem.W.Frag) : R2 := fun x y H Q => rI CMulW (fun i j => .int (i * j)) x y H Q ∨ rRep x y H Q ∨ rRepT K x y H Q
theorem op_mulA : OpR X (binaryOp .Mult) (rMulA X.K) := op_mulW.or (op_rep.or op_repT)
@[simp] def fMul : FO := fun os => match os with
  | [.val (.int i), .val (.int j)] => if mulOk i j = true then some (.val (.int (i * j))) else none
  | [.own os, .val (.int k)] => (vals os).bind fun ds => if (decide (-(2 ^ 63) ≤ k) && decide (k < 2 ^ 63) && decide (ds.length * k.toNat ≤ sizeLine)) = true then some (.own ((List.replicate k.toNat ds).flatten.map .val)) else none
  | [.val (.tuple ds), .val (.int k)] => if (!ds.isEmpty && decide (2 ≤ k) && decide (k ≤ 1000) && decide (ds.length ≤ 1000)) = true then some (.val (.tuple (List.replicate k.toNat ds).flatten)) else none
  | _ => none
theorem dqs_rep {K : PySem.W.Frag} {G : Hp} {ds : List D} {vs : List V} (h : DqAll K G vs ds) : ∀ n : Nat, DqAll K G (List.replicate n vs).flatten (List.replicate n ds).flatten
  | 0 => .nil
  | n + 1 => by simp only [List.replicate_succ, List.flatten_cons]; exact dqs_append h (dqs_rep h n)
theorem fMul_ok {K : PySem.W.Frag} : PureC K fMul (l2 (rMulA K)) := by
  intro G H vs os o Q s w h k
  unfold fMul at h
  split at h
  · rename_i i j
    split at h
    · rename_i hc
      cases h
      obtain ⟨v, u, rfl, w1, w2⟩ := two_views w rfl
      exact ⟨v, u, rfl, .inl ⟨i, j, view_int w1, view_int w2, by simpa [mulOk, CMulW] using hc, fin_val s k rfl (.int _)⟩⟩
    · cases h
  · rename_i os n
    simp only [Option.bind_eq_some_iff] at h
    obtain ⟨ds, hd, h⟩ := h
    split at h
    · rename_i hc
      cases h
      simp only [Bool.and_eq_true, decide_eq_true_eq] at hc
      obtain ⟨v, u, rfl, w1, w2⟩ := two_views w rfl
      obtain ⟨B, r⟩ := w1
      cases r with
      | own h1 h2 =>
        obtain ⟨d1, _⟩ := ros_vals_inv h2 hd
        exact ⟨_, _, rfl, .inr (.inl ⟨_, n, _, rfl, view_int w2, h1, hc.1.1, hc.1.2, by rw [dps_len d1]; exact hc.2, fin_lst s k rfl (dqs_rep d1 _)⟩)⟩
    · cases h
  · rename_i ds n
    split at h
    · rename_i hc
      cases h
      simp only [Bool.and_eq_true, decide_eq_true_eq, Bool.not_eq_true', List.isEmpty_eq_false_iff] at hc
      obtain ⟨v, u, rfl, w1, w2⟩ := two_views w rfl
      obtain ⟨a, vs, rfl, h1, d1⟩ := view_tup w1 s
      have l := dps_len d1
      exact ⟨_, _, rfl, .inr (.inr ⟨a, n, vs, rfl, view_int w2, h1, fun e => hc.1.1.1 (by subst e; cases d1; rfl), hc.1.1.2, hc.1.2, by rw [l]; exact hc.2, fin_tup s k rfl (dqs_rep d1 _)⟩)⟩
    · cases h
  · cases h

/-! ### comparisons -/
@[simp] def fEq : FO := fun os => match os with
  | [.val (.int i), .val (.int j)] => some (.val (.bool (decide (i = j))))
  | [.val (.str i), .val (.str j)] => some (.val (.bool (decide (i = j))))
  | [x, y] => x.toD.bind fun d => y.toD.bind fun e => if (SeqAt.shaped d && SeqAt.shaped e) = true then some (.val (.bool (PyData.eqv d e))) else none
  | _ => none
@[simp] def fNe : FO := fun os => match os with
  | [.val (.int i), .val (.int j)] => some (.val (.bool (!decide (i = j))))
  | [.val (.str i), .val (.str j)] => some (.val (.bool (!decide (i = j))))
  | [x, y] => x.toD.bind fun d => y.toD.bind fun e => if (SeqAt.shaped d && SeqAt.shaped e) = true then some (.val (.bool (!PyData.eqv d e))) else none
  | _ => none
def rEqA (K : PySem.W.Frag) : R2 := fun x y H Q => rEq x y H Q ∨ rEqD K x y H Q
def rNeA (K : PySem.W.Frag) : R2 := fun x y H Q => rNe x y H Q ∨ rNeD K x y H Q
theorem op_eqA (hu : X.A.units + 64 < cLine) : OpR X (compareOp .Eq) (rEqA X.K) := op_eq.or (op_eqD hu)
theorem op_neA (hu : X.A.units + 64 < cLine) : OpR X (compareOp .NotEq) (rNeA X.K) := op_ne.or (op_neD hu)
theorem fEq_ok {K : PySem.W.Frag} : PureC K fEq (l2 (rEqA K)) := by
  intro G H vs os o Q s w h k
  unfold fEq at h
  split at h
  · cases h
    obtain ⟨v, u, rfl, w1, w2⟩ := two_views w rfl
    exact ⟨v, u, rfl, .inl ⟨by rw [view_int w1, view_int w2]; rfl, by rw [view_int w1, view_int w2]; exact fin_val s k (by simp) (.bl _)⟩⟩
  · cases h
    obtain ⟨v, u, rfl, w1, w2⟩ := two_views w rfl
    exact ⟨v, u, rfl, .inl ⟨by rw [view_str w1, view_str w2]; rfl, by rw [view_str w1, view_str w2]; exact fin_val s k (by simp) (.bl _)⟩⟩
  · simp only [Option.bind_eq_some_iff] at h
    obtain ⟨d, hd, e, he, h⟩ := h
    split at h
    · rename_i hc
      cases h
      simp only [Bool.and_eq_true] at hc
      obtain ⟨v, u, rfl, w1, w2⟩ := two_views w rfl
      exact ⟨v, u, rfl, .inr ⟨d, e, dq_dp _ _ (view_dq w1 s hd), dq_dp _ _ (view_dq w2 s he), hc.1, hc.2, fin_val s k rfl (.bl _)⟩⟩
    · cases h
  · cases h
theorem fNe_ok {K : PySem.W.Frag} : PureC K fNe (l2 (rNeA K)) := by
  intro G H vs os o Q s w h k
  unfold fNe at h
  split at h
  · cases h
    obtain ⟨v, u, rfl, w1, w2⟩ := two_views w rfl
    exact ⟨v, u, rfl, .inl ⟨by rw [view_int w1, view_int w2]; rfl, by rw [view_int w1, view_int w2]; exact fin_val s k (by simp) (.bl _)⟩⟩
  · cases h
    obtain ⟨v, u, rfl, w1, w2⟩ := two_views w rfl
    exact ⟨v, u, rfl, .inl ⟨by rw [view_str w1, view_str w2]; rfl, by rw [view_str w1, view_str w2]; exact fin_val s k (by simp) (.bl _)⟩⟩
  · simp only [Option.bind_eq_some_iff] at h
    obtain ⟨d, hd, e, he, h⟩ := h
    split at h
    · rename_i hc
      cases h
      simp only [Bool.and_eq_true] at hc
      obtain ⟨v, u, rfl, w1, w2⟩ := two_views w rfl
      exact ⟨v, u, rfl, .inr ⟨d, e, dq_dp _ _ (view_dq w1 s hd), dq_dp _ _ (view_dq w2 s he), hc.1, hc.2, fin_val s k rfl (.bl _)⟩⟩
    · cases h
  · cases h
def asInts : List D → Option (List Int)
  | [] => some []
  | .int i :: r => (asInts r).bind fun is => some (i :: is)
  | _ => none
theorem asInts_eq : ∀ {ds : List D} {is : List Int}, asInts ds = some is → ds = is.map .int
  | [], is, h => by cases h; rfl
  | .int i :: r, is, h => by
    simp only [asInts, Option.bind_eq_some_iff] at h
    obtain ⟨js, h1, h2⟩ := h
    cases h2
    rw [asInts_eq h1]; rfl
  | .none :: _, _, h => by cases h
  | .bool _ :: _, _, h => by cases h
  | .str _ :: _, _, h => by cases h
  | .list _ :: _, _, h => by cases h
  | .tuple _ :: _, _, h => by cases h
  | .dict _ :: _, _, h => by cases h
@[simp] theorem asInts_map : ∀ is : List Int, asInts (is.map .int) = some is
  | [] => rfl
  | i :: is => by simp [asInts, asInts_map is]
def rLtA (K : PySem.W.Frag) : R2 := fun x y H Q => rI0 (fun i j => .bl (decide (i < j))) x y H Q ∨ (∃ i j : Str, x = .str i ∧ y = .str j ∧ Q (.bl (decide (i.cps.toList < j.cps.toList))) H) ∨ rLtT K x y H Q
theorem op_ltA (hu : X.A.units < cLine) : OpR X (compareOp .Lt) (rLtA X.K) := op_lt.or (op_lt_str.or (op_ltT hu))
@[simp] def fLt : FO := fun os => match os with
  | [.val (.int i), .val (.int j)] => some (.val (.bool (decide (i < j))))
  | [.val (.str a), .val (.str b)] => some (.val (.bool (decide (a.cps.toList < b.cps.toList))))
  | [.val (.tuple xs), .val (.tuple ys)] => (asInts xs).bind fun is => (asInts ys).bind fun js => some (.val (.bool (HT.lexLt is js)))
  | _ => none
theorem fLt_ok {K : PySem.W.Frag} : PureC K fLt (l2 (rLtA K)) := by
  intro G H vs os o Q s w h k
  unfold fLt at h
  split at h
  · rename_i i j
    cases h
    obtain ⟨v, u, rfl, w1, w2⟩ := two_views w rfl
    exact ⟨v, u, rfl, .inl ⟨i, j, view_int w1, view_int w2, fin_val s k rfl (.bl _)⟩⟩
  · rename_i a b
    cases h
    obtain ⟨v, u, rfl, w1, w2⟩ := two_views w rfl
    exact ⟨v, u, rfl, .inr (.inl ⟨a, b, view_str w1, view_str w2, fin_val s k rfl (.bl _)⟩)⟩
  · rename_i xs ys
    simp only [Option.bind_eq_some_iff] at h
    obtain ⟨is, h1, js, h2, h⟩ := h
    cases h
    obtain rfl := asInts_eq h1
    obtain rfl := asInts_eq h2
    obtain ⟨v, u, rfl, w1, w2⟩ := two_views w rfl
    obtain ⟨a, vs, rfl, k1, d1⟩ := view_tup w1 s
    obtain ⟨b, ws, rfl, k2, d2⟩ := view_tup w2 s
    rw [dqs_ints d1] at k1
    rw [dqs_ints d2] at k2
    exact ⟨_, _, rfl, .inr (.inr ⟨a, b, is, js, rfl, rfl, k1, k2, fin_val s k rfl (.bl _)⟩)⟩
  · cases h
def isNone : O → Bool
  | .val .none => true
  | _ => false
def fIsN : FO := fun os => match os with
  | [o, .val .none] => some (.val (.bool (isNone o)))
  | _ => none
def fNotN : FO := fun os => match os with
  | [o, .val .none] => some (.val (.bool (!isNone o)))
  | _ => none
theorem isN_of {K : PySem.W.Frag} {G H : Hp} {v : V} {o : O} (w : View K G H v o) : decide (v = .non) = isNone o := by
  obtain ⟨B, r⟩ := w
  cases r with
  | val r => cases r <;> rfl
  | own _ _ => rfl
  | odic _ _ => rfl
theorem fIsN_ok {K : PySem.W.Frag} : PureC K fIsN (l2 fun x y H Q => y = .non ∧ Q (.bl (decide (x = .non))) H) := by
  intro G H vs os o Q s w h k
  unfold fIsN at h
  split at h
  · cases h
    obtain ⟨v, u, rfl, w1, w2⟩ := two_views w rfl
    refine ⟨v, u, rfl, view_none w2, fin_val s k rfl ?_⟩
    rw [isN_of w1]
    exact .bl _
  · cases h
theorem fNotN_ok {K : PySem.W.Frag} : PureC K fNotN (l2 fun x y H Q => y = .non ∧ Q (.bl (!decide (x = .non))) H) := by
  intro G H vs os o Q s w h k
  unfold fNotN at h
  split at h
  · rename_i o' 
    cases h
    obtain ⟨v, u, rfl, w1, w2⟩ := two_views w rfl
    refine ⟨v, u, rfl, view_none w2, fin_val s k rfl ?_⟩
    rw [isN_of w1]
    exact .bl _
  · cases h
end
end Pv

namespace Pv
open PySem PySem.Spec PyProof.Rows L2

/-! ### list(reversed(a list)) -/
section
variable {prog : Program} {w : World} {A : Around} {E : Value → Shared → Prop} {s : Shared}
open RT in
theorem listInit_rev {R : Result → Shared → Prop} {rv l S : Addr} {its : Array Value} (hh : A.handled = none) (hr : s.heap.IsRevIter rv l ((its.size : Int) - 1)) (hl : s.heap.IsList l its) (hne : l ≠ rv) (hn : its.size ≤ sizeLine)
    (hS : s.heap.get? S = some { cls := .type "list", data := .seq #[] }) (hSr : S ≠ rv) (hSl : S ≠ l)
    (hR : ∀ h' tk acc c, (∀ b o, b ≠ rv → b ≠ S → s.heap.get? b = some o → h'.get? b = some o) → h'.get? S = some { cls := .type "list", dict := none, data := .seq acc c, slots := #[] } → ItemsOf (fun i v => its[its.size - 1 - i]? = some v) acc its.size → R (.ok (.ret .none)) { s with heap := h', toks := tk }) :
    wpAny (model prog w) A.in1 (Builtin.«list.__init__» ⟨[.ref S, .ref rv], []⟩)
      (fun fin s' => match fin with | .done f => R (.ok f) s' | .again c' => c'.quiet = true ∧ codeAny (model prog w) A c' R s') (fun e s' => R (.error e) s') s := by
  have WW := (Walks.listRev (prog := prog) (w := w) (A := A.in1) hh rv l hne its).toS
  show wpAny _ _ (Builtin.List.listItems (.ref S) >>= fun old => Builtin.List.listUpdate (.ref S) (fun _ => #[]) >>= fun _ => letGo old.toList.reverse >>= fun _ => Builtin.List.listExtendWith (.ref S) (.ref rv) .none) _ _ s
  refine wpAny_bind ?_
  unfold Builtin.List.listItems
  refine wpAny_bind (wpAny_seqItems hS rfl (wpAny_pure ?_))
  show wpAny _ A.in1 ((updateSeq S (fun _ => #[])) >>= fun _ => (letGo (#[] : Array Value).toList.reverse) >>= fun _ => (Builtin.List.listExtendWith (.ref S) (.ref rv) .none)) _ _ s
  refine wpAny_bind (wpAny_updateSeq hS rfl ?_)
  have hS2 := Heap.get?_update_self (Obj.mapSeq (fun _ => (#[] : Array Value))) hS rfl
  have oth : ∀ b o, b ≠ S → s.heap.get? b = some o → (s.heap.update S (Obj.mapSeq (fun _ => (#[] : Array Value)))).get? b = some o := fun b o hb z => (Heap.get?_update_other _ _ (Ne.symm hb)).trans z
  refine wpAny_bind (wpAny_letGo ?_)
  have hr1 : (s.heap.update S (Obj.mapSeq (fun _ => (#[] : Array Value)))).IsRevIter rv l ((its.size : Int) - 1) := hr.at fun o z => oth rv o (Ne.symm hSr) z
  have hl1 : (s.heap.update S (Obj.mapSeq (fun _ => (#[] : Array Value)))).IsList l its := by
    obtain ⟨o, z, r⟩ := hl
    exact ⟨o, oth l o (Ne.symm hSl) z, r⟩
  have hT : ({ s with heap := s.heap.update S (Obj.mapSeq (fun _ => (#[] : Array Value))) } : Shared).TypeIs (.ref rv) "list_reverseiterator" := Heap.IsRevIter.typeIs (s := { s with heap := s.heap.update S (Obj.mapSeq (fun _ => (#[] : Array Value))) }) hr1
  have h1 : Builtin.List.listSameRef (.ref S) (.ref rv) = false := by simp [Builtin.List.listSameRef, hSr]
  unfold Builtin.List.listExtendWith
  refine wpAny_bind (wpAny_typeOf hT ?_)
  rw [if_neg (by rw [h1]; decide)]
  refine wpAny_bind (wpAny_pyIter_revIter (s := { s with heap := s.heap.update S (Obj.mapSeq (fun _ => (#[] : Array Value))) }) hr1 ?_)
  refine wpAny_bind (wpAny_holding ?_)
  unfold Builtin.List.listLengthHint
  refine wpAny_bind (wpAny_specialOf hT nolen_lri ?_)
  show wpAny _ _ (specialOf (Value.ref rv) (Str.ofString "__length_hint__") >>= _) _ _ _
  refine wpAny_bind (wpAny_specialOf hT hint_lri ?_)
  generalize hid : ("list_reverseiterator.__length_hint__" : String) = id1
  wp_delta
  rw [show splitId id1 = some ("list_reverseiterator", "__length_hint__") from by subst hid; decide +kernel]
  subst hid
  refine wpAny_bind (wpAny_isInstance (b := true) hT (by rw [isSubtype_type]; kernel_rfl) ?_)
  refine wpAny_pure ?_
  rw [if_neg (by decide)]
  have e0 : ((its.size : Nat) : Int) - 1 - ((0 : Nat) : Int) = (its.size : Int) - 1 := by omega
  have hSf : S ∉ [rv, l] := by simp only [List.mem_cons, List.not_mem_nil, or_false, not_or]; exact ⟨hSr, hSl⟩
  refine wpAny_pure ⟨plainId_quiet F.plain_extend_loop _, codeAny_extend_loopS WW hn _ hSf _ its.size 0 _ _ _ rfl (Nat.zero_le _) ⟨Nat.zero_le _, by rw [e0]; exact hr1, hl1⟩ hS2 (ItemsOf.nil _) fun s' acc' c' hm hS' hacc => ?_⟩
  rw [Moved.eq_with hm]
  rw [Moved.eq_with hm] at hS'
  refine hR s'.heap s'.toks acc' c' (fun b o hb hb2 z => hm.heap b o (fun hmem => ?_) (oth b o hb2 z)) hS' hacc
  rcases List.mem_cons.mp hmem with e' | hmem
  · exact hb2 e'
  · exact hb (List.mem_singleton.mp hmem)
theorem call_list_rev {rv l : Addr} {its : Array Value} {Q : Value → Shared → Prop} (hh : A.handled = none) (hr : s.heap.IsRevIter rv l ((its.size : Int) - 1)) (hl : s.heap.IsList l its) (hne : l ≠ rv) (hn : its.size ≤ sizeLine)
    (hQ : ∀ (h' : Heap) (tk : Nat) (acc : Array Value) (c : Nat), (∀ b o, b ≠ rv → s.heap.get? b = some o → h'.get? b = some o) → h'.get? s.heap.objs.size = some { cls := .type "list", dict := none, data := .seq acc c, slots := #[] } → ItemsOf (fun i v => its[its.size - 1 - i]? = some v) acc its.size →
      Q (.ref s.heap.objs.size) { s with heap := h', toks := tk }) : wpAny (model prog w) A (call (.type "list") [.ref rv]) Q E s := by
  obtain ⟨oi, hoi, _⟩ := id hr
  obtain ⟨ol, hol, _⟩ := id hl
  refine callType_codes (Q₁ := fun obj s₁ => obj = .ref s.heap.objs.size ∧ s₁ = { s with heap := s.heap.push { cls := .type "list", data := .seq #[] } }) F.called_list (F.typeCall_list_1 _) F.entry_list_init
    (code_list_new _ ⟨rfl, rfl⟩) fun obj s₁ q => ?_
  obtain ⟨rfl, rfl⟩ := q
  refine ⟨⟨_, Heap.get?_push_size _ rfl, rfl⟩, F.args_list_init_2 _ _, listInit_rev (A := A.in1) (S := s.heap.objs.size) hh (hr.at fun o z => Heap.get?_push_of_some _ z) (hl.push _) hne hn (Heap.get?_push_size _ rfl) (Nat.ne_of_gt (Heap.lt_size hoi)) (Nat.ne_of_gt (Heap.lt_size hol)) fun h' tk acc c hk hS' hacc => ?_⟩
  exact ⟨rfl, hQ h' tk acc c (fun b o hb z => hk b o hb (Nat.ne_of_lt (Heap.lt_size z)) (Heap.get?_push_of_some _ z)) hS' hacc⟩
end
def tLstRev (K : PySem.W.Frag) (te : TE) : TE := fun σ H Q => te σ H fun v H1 => ∃ (a : Addr) (xs : List V), v = .ref a ∧ SqL K H1 a xs ∧ ∀ q, H1 q = none → Q (.ref q) (upd H1 q (.lst xs.reverse))
theorem pe_lstRev {X : Cx} {e : Expr} {te : TE} {p p2 pos pos2 : Pos} (hc : X.calm = true) (hg : Gl X "list") (hm : X.mg "list" = none) (hg2 : Gl X "reversed") (hm2 : X.mg "reversed" = none) (he : PE X e te)
    (hs : starEach [e] X.env = (false, eval e X.env) :: starEach [] X.env := by rfl)
    (hs2 : starEach [.Call (.Name "reversed" p2) [e] [] pos2] X.env = (false, eval (.Call (.Name "reversed" p2) [e] [] pos2) X.env) :: starEach [] X.env := by rfl) :
    PE X (.Call (.Name "list" p) [.Call (.Name "reversed" p2) [e] [] pos2] [] pos) (tLstRev X.K te) := by
  refine ⟨fun pins s σ H Q I h => ?_⟩
  refine Call_ (ld_blt I hg hm boot_list (PyProof.Rows.callWith_type1 (args_cons (Call_ (ld_blt I hg2 hm2 PyProof.Rows.boot_reversed (PyProof.Rows.callWith_type1 (args_cons (thn (he.run pins s σ H _ I h) fun u s1 ⟨v, H1, I1, r1, q1⟩ => args_nil ?_) hs) hs rfl))) hs2) hs2 rfl))
  obtain ⟨a, xs, ev, hq, q⟩ := q1
  subst ev
  obtain rfl : u = Value.ref a := r1
  obtain ⟨its, rv, pl, hz⟩ := I1.list hq
  refine call_reversed_list pl.isList (args_nil ?_)
  have I2 : Inv X pins σ H1 { s1 with heap := s1.heap.push (revObj a ((its.toArray.size : Int) - 1)) } := I1.kept (t' := s1.toks) fun b o z => Heap.get?_push_of_some _ z
  obtain ⟨f0, f1, f2, f3, f4, f5⟩ := I1.fpOk (H' := H1) (b := s1.heap.objs.size) (Nat.le_refl _) (I1.hok.fresh (Nat.le_refl _))
  obtain ⟨ol, hol, _⟩ := id pl.isList
  have hn : its.toArray.size ≤ sizeLine := by rw [List.size_toArray, ← rv.length]; exact hz
  refine call_list_rev (s := { s1 with heap := s1.heap.push (revObj a ((its.toArray.size : Int) - 1)) }) (I1.ok.hd hc) ⟨_, Heap.get?_push_size _ rfl, rfl, rfl⟩ (pl.isList.push _) (Nat.ne_of_lt (Heap.lt_size hol)) hn fun h' tk acc c hk hS hi => ?_
  have sz : s1.heap.objs.size < (s1.heap.push (revObj a ((its.toArray.size : Int) - 1))).objs.size := by
    show _ < (Array.push _ _).size
    rw [Array.size_push]; exact Nat.lt_succ_self _
  have I3 := I2.turnedNew (t' := tk) (ch := [s1.heap.objs.size]) (T := (s1.heap.push (revObj a ((its.toArray.size : Int) - 1))).objs.size) (ob := .lst xs.reverse) (fun b o hb z => hk b o (fun e => hb (by rw [e]; simp)) z)
    (fun b hb => by rw [List.mem_singleton.mp hb]; exact I1.fpOk (Nat.le_refl _) (I1.hok.fresh (Nat.le_refl _))) (Nat.le_refl _) (show ObjOk X.prog X.w _ _ _ (.lst xs.reverse) from ⟨by rw [List.length_reverse]; exact hz, acc.toList, c, RT.vals_rev rv hi, by rw [Array.toArray_toList]; exact hS⟩)
  exact ⟨.ref _, _, I3, rfl, q _ (I1.hok.fresh (Nat.le_of_lt sz))⟩
end Pv

namespace Pv
open PySem PySem.Spec PyProof.Rows L2

/-! ### in, not in -/
def seqD (o : O) : Option (List D) := match o.toD with
  | some (.list ds) => some ds
  | some (.tuple ds) => some ds
  | _ => none
def fInB : List O → Option Bool := fun os => match os with
  | [x, .odic kvs] => (keyO x).bind fun k => some (getO kvs k).isSome
  | [.val (.str a), .val (.str b)] => some (!(Builtin.Str.occurrences b a 0 b.length 1).isEmpty)
  | [x, c] => x.toD.bind fun d => (seqD c).bind fun ds => if (SeqAt.shaped d && SeqAt.shaped (.list ds)) = true then some (ds.any fun z => PyData.eqv z d) else none
  | _ => none
def fIn : FO := fun os => (fInB os).bind fun b => some (.val (.bool b))
def fNotIn : FO := fun os => (fInB os).bind fun b => some (.val (.bool (!b)))
def rInA (K : PySem.W.Frag) (g : Bool → Bool) : R2 := fun x y H Q => (∃ d ds, Dp K H x d ∧ Dp K H y (.list ds) ∧ SeqAt.shaped d = true ∧ SeqAt.shaped (.list ds) = true ∧ Q (.bl (g (ds.any fun z => PyData.eqv z d))) H) ∨
  (∃ d ds, Dp K H x d ∧ Dp K H y (.tuple ds) ∧ SeqAt.shaped d = true ∧ SeqAt.shaped (.list ds) = true ∧ Q (.bl (g (ds.any fun z => PyData.eqv z d))) H) ∨
  (∃ a o, y = .ref a ∧ DGet H a x o ∧ Q (.bl (g o.isSome)) H) ∨ (∃ i j, x = .str i ∧ y = .str j ∧ Q (.bl (g (!(Builtin.Str.occurrences j i 0 j.length 1).isEmpty))) H)
section
variable {X : Cx}
theorem op_inA (hu : X.A.units + 65 < cLine) : OpR X (compareOp .In) (rInA X.K id) := by
  intro pins s σ H x y v u Q I rx ry h
  rcases h with h | ⟨d, ds, hd, he, sd, se, q⟩ | ⟨a, o, rfl, g, q⟩ | h
  · exact op_inD hu pins s σ H x y v u Q I rx ry h
  · obtain ⟨as, r1⟩ := Dp.reads I d x v hd rx
    obtain ⟨bs, r2⟩ := Dp.reads I (.tuple ds) y u he ry
    exact SeqAt.in_tuple_reads r2 r1 (SeqAt.canLay_of_shaped se) (SeqAt.canLay_of_shaped sd) (room_in_shaped sd hu) ⟨.bl _, H, I, rfl, q⟩
  · obtain rfl : u = Value.ref a := ry
    exact d_in (by omega) I g rx fun s3 I3 => ⟨.bl o.isSome, H, I3, rfl, q⟩
  · exact op_in_str pins s σ H x y v u Q I rx ry h
theorem op_notInA (hu : X.A.units + 65 < cLine) : OpR X (compareOp .NotIn) (rInA X.K not) := by
  intro pins s σ H x y v u Q I rx ry h
  rcases h with h | ⟨d, ds, hd, he, sd, se, q⟩ | ⟨a, o, rfl, g, q⟩ | h
  · exact op_notInD hu pins s σ H x y v u Q I rx ry h
  · obtain ⟨as, r1⟩ := Dp.reads I d x v hd rx
    obtain ⟨bs, r2⟩ := Dp.reads I (.tuple ds) y u he ry
    exact SeqAt.notIn_tuple_reads r2 r1 (SeqAt.canLay_of_shaped se) (SeqAt.canLay_of_shaped sd) (room_in_shaped sd hu) ⟨.bl _, H, I, rfl, q⟩
  · obtain rfl : u = Value.ref a := ry
    exact d_notIn (by omega) I g rx fun s3 I3 => ⟨.bl (!o.isSome), H, I3, rfl, q⟩
  · exact op_notIn_str pins s σ H x y v u Q I rx ry h
end
theorem view_odic {K : PySem.W.Frag} {G H : Hp} {v : V} {kvs : List (Key × O)} (w : View K G H v (.odic kvs)) : ∃ a vs A, v = .ref a ∧ H a = some (.dK vs) ∧ Rok K G H vs kvs A := by
  obtain ⟨B, r⟩ := w
  cases r with
  | odic h1 h2 => exact ⟨_, _, _, rfl, h1, h2⟩
theorem get_some {K : PySem.W.Frag} {G H : Hp} {kvs : List (Key × O)} {vs : List (Key × V)} {A : List Addr} {k : Key} (r : Rok K G H vs kvs A) : (valV vs k).isSome = (getO kvs k).isSome := by
  obtain ⟨h1, h2⟩ := rok_get (k := k) r
  cases e : getO kvs k with
  | none => rw [h1 e]; rfl
  | some o => obtain ⟨v, e2, _⟩ := h2 o e; rw [e2]; rfl
theorem inB_ok {K : PySem.W.Frag} (g : Bool → Bool) : PureC K (fun os => (fInB os).bind fun b => some (.val (.bool (g b)))) (l2 (rInA K g)) := by
  intro G H vs os o Q s w h k
  simp only [Option.bind_eq_some_iff] at h
  obtain ⟨b, h, e⟩ := h
  cases e
  unfold fInB at h
  split at h
  · rename_i x kvs
    simp only [Option.bind_eq_some_iff] at h
    obtain ⟨q, hq, h⟩ := h
    cases h
    obtain ⟨v, u, rfl, w1, w2⟩ := two_views w rfl
    obtain ⟨a, vs', A, rfl, h1, h2⟩ := view_odic w2
    refine ⟨v, _, rfl, .inr (.inr (.inl ⟨a, valV vs' q, rfl, ?_, fin_val s k (by rw [get_some h2]) (.bl _)⟩))⟩
    rw [keyO_eq w1 hq]
    exact DGet.k h1
  · cases h
    obtain ⟨v, u, rfl, w1, w2⟩ := two_views w rfl
    exact ⟨v, u, rfl, .inr (.inr (.inr ⟨_, _, view_str w1, view_str w2, fin_val s k rfl (.bl _)⟩))⟩
  · simp only [Option.bind_eq_some_iff] at h
    obtain ⟨d, hd, ds, he, h⟩ := h
    split at h
    · rename_i hc
      cases h
      simp only [Bool.and_eq_true] at hc
      obtain ⟨v, u, rfl, w1, w2⟩ := two_views w rfl
      unfold seqD at he
      split at he
      · rename_i ds' e; cases he
        exact ⟨v, u, rfl, .inl ⟨d, _, dq_dp _ _ (view_dq w1 s hd), dq_dp _ _ (view_dq w2 s e), hc.1, hc.2, fin_val s k rfl (.bl _)⟩⟩
      · rename_i ds' e; cases he
        exact ⟨v, u, rfl, .inr (.inl ⟨d, _, dq_dp _ _ (view_dq w1 s hd), dq_dp _ _ (view_dq w2 s e), hc.1, hc.2, fin_val s k rfl (.bl _)⟩)⟩
      · cases he
    · cases h
  · cases h
theorem fIn_ok {K : PySem.W.Frag} : PureC K fIn (l2 (rInA K id)) := inB_ok id
theorem fNotIn_ok {K : PySem.W.Frag} : PureC K fNotIn (l2 (rInA K not)) := inB_ok not

/-! ### o[i] -/
@[simp] def valO : O → Option O
  | .val d => some (.val d)
  | _ => none
@[simp] def fIx : FO := fun os => match os with
  | [.odic kvs, k] => (keyO k).bind fun q => (getO kvs q).bind valO
  | [.own xs, .val (.int i)] => (atI xs i).bind valO
  | [.val (.list ds), .val (.int i)] => (atI ds i).bind fun d => some (.val d)
  | [.val (.tuple ds), .val (.int i)] => (atI ds i).bind fun d => some (.val d)
  | [.val (.str z), .val (.int i)] => if z.length ≤ sizeLine then (atI z.cps.toList i).bind fun c => some (.val (.str ⟨#[c]⟩)) else none
  | _ => none
def rIxA (K : PySem.W.Frag) : R2 := fun x y H Q => rIx K x y H Q ∨ ∃ a v, x = .ref a ∧ DGet H a y (some v) ∧ Q v H
theorem ix_dict {X : Cx} (hu : X.A.units + 1 < cLine) : IxR X (fun x y H Q => ∃ a v, x = .ref a ∧ DGet H a y (some v) ∧ Q v H) := by
  intro value slice pins s σ H x y v u Q I rx ry h hs
  obtain ⟨a, z, rfl, g, q⟩ := h
  obtain rfl : v = Value.ref a := rx
  exact tail_any (dict_typeIs I g) PySem.F.slot_dict_getitem.lookup (d_getItem hu I g ry fun w' s3 I3 rw' => ⟨z, H, I3, rw', q⟩) hs
theorem ix_any {X : Cx} (hu : X.A.units + 1 < cLine) : IxR X (rIxA X.K) := ix_seq.or (ix_dict hu)
theorem dqs_at {K : PySem.W.Frag} {G : Hp} : ∀ {ds : List D} {vs : List V} {j : Nat} {d : D}, DqAll K G vs ds → ds[j]? = some d → ∃ v, vs[j]? = some v ∧ Dq K G v d
  | [], _, _, _, h, e => by simp at e
  | _ :: ds, _, 0, _, h, e => by cases h with | cons h1 h2 => simp at e; subst e; exact ⟨_, rfl, h1⟩
  | _ :: ds, _, j + 1, _, h, e => by cases h with | cons h1 h2 => rw [List.getElem?_cons_succ] at e ⊢; exact dqs_at h2 e
theorem dqs_atI {K : PySem.W.Frag} {G : Hp} {ds : List D} {vs : List V} {i : Int} {d : D} (h : DqAll K G vs ds) (e : atI ds i = some d) : ∃ v, atI vs i = some v ∧ Dq K G v d := by
  unfold atI at e ⊢
  rw [dps_len h]
  simp only [Option.bind_eq_some_iff] at e
  obtain ⟨j, e1, e2⟩ := e
  obtain ⟨v, h1, h2⟩ := dqs_at h e2
  exact ⟨v, by rw [e1]; exact h1, h2⟩
theorem ros_at {K : PySem.W.Frag} {G H : Hp} : ∀ {os : List O} {vs : List V} {A : List Addr} {j : Nat} {o : O}, Ros K G H vs os A → os[j]? = some o → ∃ v, vs[j]? = some v ∧ View K G H v o
  | [], _, _, _, _, h, e => by simp at e
  | _ :: ds, _, _, 0, _, h, e => by cases h with | cons h1 h2 => simp at e; subst e; exact ⟨_, rfl, _, h1⟩
  | _ :: ds, _, _, j + 1, _, h, e => by cases h with | cons h1 h2 => rw [List.getElem?_cons_succ] at e ⊢; exact ros_at h2 e
theorem ros_atI {K : PySem.W.Frag} {G H : Hp} {os : List O} {vs : List V} {A : List Addr} {i : Int} {o : O} (h : Ros K G H vs os A) (e : atI os i = some o) : ∃ v, atI vs i = some v ∧ View K G H v o := by
  unfold atI at e ⊢
  rw [ros_len h]
  simp only [Option.bind_eq_some_iff] at e
  obtain ⟨j, e1, e2⟩ := e
  obtain ⟨v, h1, h2⟩ := ros_at h e2
  exact ⟨v, by rw [e1]; exact h1, h2⟩
theorem valO_eq {o o' : O} (h : valO o = some o') : ∃ d, o = .val d ∧ o' = .val d := by
  cases o with
  | val d => cases h; exact ⟨d, rfl, rfl⟩
  | _ => cases h
theorem fIx_ok {K : PySem.W.Frag} : PureC K fIx (l2 (rIxA K)) := by
  intro G H vs os o Q s w h k
  unfold fIx at h
  split at h
  · simp only [Option.bind_eq_some_iff] at h
    obtain ⟨q, hq, o', hg, hv⟩ := h
    obtain ⟨d, rfl, rfl⟩ := valO_eq hv
    obtain ⟨v, u, rfl, w1, w2⟩ := two_views w rfl
    obtain ⟨a, vs', A, rfl, h1, h2⟩ := view_odic w1
    obtain ⟨z, e, wz⟩ := (rok_get (k := q) h2).2 _ hg
    refine ⟨_, u, rfl, .inr ⟨a, z, rfl, ?_, fin_val s k rfl (view_val wz)⟩⟩
    rw [keyO_eq w2 hq, ← e]
    exact DGet.k h1
  · rename_i xs i
    simp only [Option.bind_eq_some_iff] at h
    obtain ⟨o', hg, hv⟩ := h
    obtain ⟨d, rfl, rfl⟩ := valO_eq hv
    obtain ⟨v, u, rfl, w1, w2⟩ := two_views w rfl
    obtain ⟨B, r⟩ := w1
    cases r with
    | own h1 h2 =>
      obtain ⟨z, e, wz⟩ := ros_atI h2 hg
      exact ⟨_, u, rfl, .inl (.inl ⟨_, _, i, z, rfl, view_int w2, SqL.of h1, e, fin_val s k rfl (view_val wz)⟩)⟩
  · rename_i ds i
    simp only [Option.bind_eq_some_iff] at h
    obtain ⟨d, hg, hv⟩ := h
    cases hv
    obtain ⟨v, u, rfl, w1, w2⟩ := two_views w rfl
    obtain ⟨a, vs, rfl, h1, d1⟩ := view_list w1 s rfl
    obtain ⟨z, e, dz⟩ := dqs_atI d1 hg
    exact ⟨_, u, rfl, .inl (.inl ⟨_, _, i, z, rfl, view_int w2, h1.l, e, fin_val s k rfl dz⟩)⟩
  · rename_i ds i
    simp only [Option.bind_eq_some_iff] at h
    obtain ⟨d, hg, hv⟩ := h
    cases hv
    obtain ⟨v, u, rfl, w1, w2⟩ := two_views w rfl
    obtain ⟨a, vs, rfl, h1, d1⟩ := view_tup w1 s
    obtain ⟨z, e, dz⟩ := dqs_atI d1 hg
    exact ⟨_, u, rfl, .inl (.inr (.inl ⟨_, _, i, z, rfl, view_int w2, h1, e, fin_val s k rfl dz⟩))⟩
  · rename_i zz i
    split at h
    · rename_i hz
      simp only [Option.bind_eq_some_iff] at h
      obtain ⟨c, hg, hv⟩ := h
      cases hv
      obtain ⟨v, u, rfl, w1, w2⟩ := two_views w rfl
      exact ⟨_, u, rfl, .inl (.inr (.inr ⟨zz, i, c, view_str w1, view_int w2, hz, hg, fin_val s k rfl (.str _)⟩))⟩
    · cases h
  · cases h

/-! ### len -/
@[simp] def lenO : O → Option Nat
  | .val (.list ds) => some ds.length
  | .val (.tuple ds) => some ds.length
  | .val (.str z) => if z.length ≤ sizeLine then some z.length else none
  | .own xs => some xs.length
  | .odic kvs => some kvs.length
  | _ => none
@[simp] def fLen : FO := fun os => match os with
  | [o] => (lenO o).bind fun n => some (.val (.int n))
  | _ => none
def rLenA (K : PySem.W.Frag) : List V → Hp → VK → Prop := fun xs H Q => (∃ x n, xs = [x] ∧ LenV K x H n ∧ Q (.int n) H) ∨ ∃ a kvs, xs = [V.ref a] ∧ H a = some (.dK kvs) ∧ Q (.int kvs.length) H
theorem call_lenA {X : Cx} : CallR X (.builtin "len") (rLenA X.K) := call_len.or call_lenD
theorem fLen_ok {K : PySem.W.Frag} : PureC K fLen (rLenA K) := by
  intro G H vs os o Q s w h k
  unfold fLen at h
  split at h
  · rename_i o'
    simp only [Option.bind_eq_some_iff] at h
    obtain ⟨n, hn, h⟩ := h
    cases h
    obtain ⟨v, rfl, w1⟩ := one_views w rfl
    have fin := fin_val s k rfl (.int (n : Int))
    unfold lenO at hn
    split at hn
    · cases hn
      obtain ⟨a, vs, rfl, h1, d1⟩ := view_list w1 s rfl
      exact .inl ⟨_, _, rfl, .inl ⟨vs, h1.l, (dps_len d1).symm⟩, fin⟩
    · cases hn
      obtain ⟨a, vs, rfl, h1, d1⟩ := view_tup w1 s
      exact .inl ⟨_, _, rfl, .inr ⟨vs, h1, (dps_len d1).symm⟩, fin⟩
    · split at hn
      · rename_i hz
        cases hn
        obtain rfl := view_str w1
        exact .inl ⟨_, _, rfl, ⟨hz, rfl⟩, fin⟩
      · cases hn
    · cases hn
      obtain ⟨B, r⟩ := w1
      cases r with
      | own h1 h2 => exact .inl ⟨_, _, rfl, .inl ⟨_, SqL.of h1, (ros_len h2).symm⟩, fin⟩
    · cases hn
      obtain ⟨a, vs', A, rfl, h1, h2⟩ := view_odic w1
      rw [← rok_len h2] at fin
      exact .inr ⟨a, vs', rfl, h1, fin⟩
    · cases hn
  · cases h

/-! ### abs, max, min -/
def rAbs : List V → Hp → VK → Prop := fun xs H Q => ∃ i, xs = [.int i] ∧ Q (.int (if i < 0 then -i else i)) H
@[simp] def fAbs : FO := f1I fun i => .int (if i < 0 then -i else i)
theorem fAbs_ok {K : PySem.W.Frag} : PureC K fAbs rAbs := by
  intro G H vs os o Q s w h k
  unfold fAbs f1I at h
  split at h
  · rename_i i
    cases h
    obtain ⟨v, rfl, w1⟩ := one_views w rfl
    exact ⟨i, by rw [view_int w1], fin_val s k rfl (.int _)⟩
  · cases h
def maxL : List Int → Option Int
  | [] => none
  | i :: is => some (is.foldl max i)
def minL : List Int → Option Int
  | [] => none
  | i :: is => some (is.foldl min i)
theorem foldmax_le : ∀ (is : List Int) (i : Int), i ≤ is.foldl max i ∧ ∀ y ∈ is, y ≤ is.foldl max i
  | [], i => ⟨Int.le_refl _, fun _ h => nomatch h⟩
  | j :: is, i => by
    obtain ⟨h1, h2⟩ := foldmax_le is (max i j)
    refine ⟨Int.le_trans (Int.le_max_left i j) h1, fun y hy => ?_⟩
    rcases List.mem_cons.mp hy with rfl | hy
    · exact Int.le_trans (Int.le_max_right i y) h1
    · exact h2 y hy
theorem foldmin_le : ∀ (is : List Int) (i : Int), is.foldl min i ≤ i ∧ ∀ y ∈ is, is.foldl min i ≤ y
  | [], i => ⟨Int.le_refl _, fun _ h => nomatch h⟩
  | j :: is, i => by
    obtain ⟨h1, h2⟩ := foldmin_le is (min i j)
    refine ⟨Int.le_trans h1 (Int.min_le_left i j), fun y hy => ?_⟩
    rcases List.mem_cons.mp hy with rfl | hy
    · exact Int.le_trans h1 (Int.min_le_right i y)
    · exact h2 y hy
def rMaxA (K : PySem.W.Frag) : List V → Hp → VK → Prop := fun xs H Q => (∃ i j, xs = [.int i, .int j] ∧ Q (.int (if j > i then j else i)) H) ∨ rMax K xs H Q
def rMinA (K : PySem.W.Frag) : List V → Hp → VK → Prop := fun xs H Q => (∃ i j, xs = [.int i, .int j] ∧ Q (.int (if j < i then j else i)) H) ∨ rMin K xs H Q
theorem call_maxA {X : Cx} (hc : X.calm = true) : CallR X (.builtin "max") (rMaxA X.K) := (call_max2 hc).or (cr_max hc)
theorem call_minA {X : Cx} (hc : X.calm = true) : CallR X (.builtin "min") (rMinA X.K) := (call_min2 hc).or (cr_min hc)
@[simp] def fMax : FO := fun os => match os with
  | [.val (.int i), .val (.int j)] => some (.val (.int (max i j)))
  | [o] => (itemsL o).bind fun ds => (asInts ds).bind fun is => (maxL is).bind fun m => some (.val (.int m))
  | _ => none
@[simp] def fMin : FO := fun os => match os with
  | [.val (.int i), .val (.int j)] => some (.val (.int (min i j)))
  | [o] => (itemsL o).bind fun ds => (asInts ds).bind fun is => (minL is).bind fun m => some (.val (.int m))
  | _ => none
theorem view_ints {K : PySem.W.Frag} {G H : Hp} {v : V} {o : O} {ds : List D} {is : List Int} (w : View K G H v o) (s : Sub G H) (h : itemsL o = some ds) (h2 : asInts ds = some is) : ∃ a, v = .ref a ∧ SqL K H a (is.map V.int) := by
  obtain ⟨a, vs, rfl, h3, d1⟩ := view_list w s h
  obtain rfl := asInts_eq h2
  rw [dqs_ints d1] at h3
  exact ⟨a, rfl, h3.l⟩
theorem fMax_ok {K : PySem.W.Frag} : PureC K fMax (rMaxA K) := by
  intro G H vs os o Q s w h k
  unfold fMax at h
  split at h
  · rename_i i j
    cases h
    obtain ⟨v, u, rfl, w1, w2⟩ := two_views w rfl
    refine .inl ⟨i, j, by rw [view_int w1, view_int w2], fin_val s k ?_ (.int _)⟩
    congr 2
    split <;> omega
  · simp only [Option.bind_eq_some_iff] at h
    obtain ⟨ds, h1, is, h2, m, h3, h4⟩ := h
    cases h4
    obtain ⟨v, rfl, w1⟩ := one_views w rfl
    obtain ⟨a, rfl, hq⟩ := view_ints w1 s h1 h2
    cases is with
    | nil => cases h3
    | cons i is =>
      cases h3
      refine .inr ⟨a, _, rfl, hq, by simp, fun m hm hle => ?_⟩
      have e : m = is.foldl max i := by
        obtain ⟨p1, p2⟩ := foldmax_le is i
        have q1 : m ≤ is.foldl max i := by
          rcases List.mem_cons.mp hm with h | h
          · rw [h]; exact p1
          · exact p2 m h
        have q2 : is.foldl max i ≤ m := hle _ (foldmax_mem is i)
        omega
      rw [e]
      exact fin_val s k rfl (.int _)
  · cases h
where
  foldmax_mem : ∀ (is : List Int) (i : Int), is.foldl max i ∈ i :: is
  | [], i => by simp
  | j :: is, i => by
    have h := foldmax_mem is (max i j)
    simp only [List.foldl_cons]
    rcases List.mem_cons.mp h with h | h
    · rw [h]
      by_cases q : i ≤ j
      · rw [Int.max_eq_right q]; simp
      · rw [Int.max_eq_left (by omega)]; simp
    · simp [h]
theorem fMin_ok {K : PySem.W.Frag} : PureC K fMin (rMinA K) := by
  intro G H vs os o Q s w h k
  unfold fMin at h
  split at h
  · rename_i i j
    cases h
    obtain ⟨v, u, rfl, w1, w2⟩ := two_views w rfl
    refine .inl ⟨i, j, by rw [view_int w1, view_int w2], fin_val s k ?_ (.int _)⟩
    congr 2
    split <;> omega
  · simp only [Option.bind_eq_some_iff] at h
    obtain ⟨ds, h1, is, h2, m, h3, h4⟩ := h
    cases h4
    obtain ⟨v, rfl, w1⟩ := one_views w rfl
    obtain ⟨a, rfl, hq⟩ := view_ints w1 s h1 h2
    cases is with
    | nil => cases h3
    | cons i is =>
      cases h3
      refine .inr ⟨a, _, rfl, hq, by simp, fun m hm hle => ?_⟩
      have e : m = is.foldl min i := by
        obtain ⟨p1, p2⟩ := foldmin_le is i
        have q1 : is.foldl min i ≤ m := by
          rcases List.mem_cons.mp hm with h | h
          · rw [h]; exact p1
          · exact p2 m h
        have q2 : m ≤ is.foldl min i := hle _ (foldmin_mem is i)
        omega
      rw [e]
      exact fin_val s k rfl (.int _)
  · cases h
where
  foldmin_mem : ∀ (is : List Int) (i : Int), is.foldl min i ∈ i :: is
  | [], i => by simp
  | j :: is, i => by
    have h := foldmin_mem is (min i j)
    simp only [List.foldl_cons]
    rcases List.mem_cons.mp h with h | h
    · rw [h]
      by_cases q : i ≤ j
      · rw [Int.min_eq_left q]; simp
      · rw [Int.min_eq_right (by omega)]; simp
    · simp [h]
end Pv

namespace Pv
open PySem PySem.Spec PyProof.Rows L2

/-! ### tuple(x), list(x) -/
@[simp] def fTuple : FO := fun os => match os with
  | [o] => (itemsO o).bind fun ds => some (.val (.tuple ds))
  | _ => none
def rTupOf (K : PySem.W.Frag) : List V → Hp → VK → Prop := fun xs H Q => ∃ p ys, xs = [.ref p] ∧ ((SqL K H p ys ∧ ∀ l, H l = none → Q (.ref l) (upd H l (.tup ys))) ∨ (SqT K H p ys ∧ Q (.ref p) H))
theorem fTuple_ok {K : PySem.W.Frag} : PureC K fTuple (rTupOf K) := by
  intro G H vs os o Q s w h k
  unfold fTuple at h
  split at h
  · rename_i o'
    simp only [Option.bind_eq_some_iff] at h
    obtain ⟨ds, h1, h⟩ := h
    cases h
    obtain ⟨v, rfl, w1⟩ := one_views w rfl
    cases o' with
    | val d =>
      cases d with
      | list ds' =>
        cases h1
        obtain ⟨a, ws, rfl, h2, d1⟩ := view_list w1 s rfl
        exact ⟨a, ws, rfl, .inl ⟨h2.l, fin_tup s k rfl d1⟩⟩
      | tuple ds' =>
        cases h1
        obtain ⟨a, ws, rfl, h2, d1⟩ := view_tup w1 s
        exact ⟨a, ws, rfl, .inr ⟨h2, fin_val s k rfl (view_val w1)⟩⟩
      | _ => cases h1
    | own xs =>
      obtain ⟨a, ws, rfl, h2, d1⟩ := view_list w1 s h1
      exact ⟨a, ws, rfl, .inl ⟨h2.l, fin_tup s k rfl d1⟩⟩
    | odic _ => cases h1
  · cases h
@[simp] def fList : FO := fun os => match os with
  | [o] => (itemsO o).bind fun ds => some (.own (ds.map .val))
  | _ => none
def rLstOf (K : PySem.W.Frag) : List V → Hp → VK → Prop := fun xs H Q => ∃ p ys, xs = [.ref p] ∧ (SqL K H p ys ∨ SqT K H p ys) ∧ ∀ l, H l = none → Q (.ref l) (upd H l (.lst ys))
theorem fList_ok {K : PySem.W.Frag} : PureC K fList (rLstOf K) := by
  intro G H vs os o Q s w h k
  unfold fList at h
  split at h
  · rename_i o'
    simp only [Option.bind_eq_some_iff] at h
    obtain ⟨ds, h1, h⟩ := h
    cases h
    obtain ⟨v, rfl, w1⟩ := one_views w rfl
    obtain ⟨a, ws, rfl, h2, d1⟩ := view_seq w1 s h1
    exact ⟨a, ws, rfl, h2, fin_lst s k rfl d1⟩
  · cases h

/-! ### sorted, sum -/
def sortI (is : List Int) : List Int := is.mergeSort (fun a b => decide (a ≤ b))
theorem sortI_perm (is : List Int) : (sortI is).Perm is := List.mergeSort_perm is _
theorem sortI_sorted (is : List Int) : (sortI is).Pairwise (· ≤ ·) := by
  have h := List.pairwise_mergeSort (le := fun a b : Int => decide (a ≤ b)) (fun a b c h1 h2 => by simp only [decide_eq_true_eq] at *; omega) (fun a b => by simp only [Bool.or_eq_true, decide_eq_true_eq]; omega) is
  exact h.imp fun h => by simpa using h
theorem sorted_uniq : ∀ {xs ys : List Int}, xs.Perm ys → xs.Pairwise (· ≤ ·) → ys.Pairwise (· ≤ ·) → xs = ys
  | [], ys, p, _, _ => (List.nil_perm.mp p).symm
  | x :: xs, [], p, _, _ => absurd (List.perm_nil.mp p) (by simp)
  | x :: xs, y :: ys, p, h1, h2 => by
    have e : x = y := by
      have hx : x ∈ y :: ys := p.mem_iff.mp (by simp)
      have hy : y ∈ x :: xs := p.mem_iff.mpr (by simp)
      have a : y ≤ x := by
        rcases List.mem_cons.mp hx with h | h
        · omega
        · exact (List.pairwise_cons.mp h2).1 x h
      have b : x ≤ y := by
        rcases List.mem_cons.mp hy with h | h
        · omega
        · exact (List.pairwise_cons.mp h1).1 y h
      omega
    subst e
    rw [sorted_uniq (List.Perm.cons_inv p) (List.pairwise_cons.mp h1).2 (List.pairwise_cons.mp h2).2]
theorem sortI_eq {is js : List Int} (p : js.Perm is) (h : js.Pairwise (· ≤ ·)) : sortI is = js := sorted_uniq ((sortI_perm is).trans p.symm) (sortI_sorted is) h
@[simp] def fSorted : FO := fun os => match os with
  | [o] => (itemsL o).bind fun ds => (asInts ds).bind fun is => some (.own ((sortI is).map fun i => .val (.int i)))
  | _ => none
theorem fSorted_ok {K : PySem.W.Frag} : PureC K fSorted (rSortedI K) := by
  intro G H vs os o Q s w h k
  unfold fSorted at h
  split at h
  · simp only [Option.bind_eq_some_iff] at h
    obtain ⟨ds, h1, is, h2, h4⟩ := h
    cases h4
    obtain ⟨v, rfl, w1⟩ := one_views w rfl
    obtain ⟨a, rfl, hq⟩ := view_ints w1 s h1 h2
    refine ⟨a, is, rfl, hq, fun ns p hp hs hn => ?_⟩
    rw [← sortI_eq hp hs]
    exact fin_lst s k (ds := (sortI is).map .int) (by simp) ints_dqs p hn
  · cases h
@[simp] def fSum : FO := fun os => match os with
  | [o] => (itemsL o).bind fun ds => (asInts ds).bind fun is => some (.val (.int is.sum))
  | _ => none
theorem fSum_ok {K : PySem.W.Frag} : PureC K fSum (rSum K) := by
  intro G H vs os o Q s w h k
  unfold fSum at h
  split at h
  · simp only [Option.bind_eq_some_iff] at h
    obtain ⟨ds, h1, is, h2, h4⟩ := h
    cases h4
    obtain ⟨v, rfl, w1⟩ := one_views w rfl
    obtain ⟨a, rfl, hq⟩ := view_ints w1 s h1 h2
    exact ⟨a, is, rfl, hq, fin_val s k rfl (.int _)⟩
  · cases h

/-! ### repr -/
def reprOk (d : D) : Bool := SeqAt.shaped d && d.showable && decide (d.shown.length ≤ sizeLine)
@[simp] def fRepr : FO := fun os => match os with
  | [o] => o.toD.bind fun d => if reprOk d = true then some (.val (.str d.shown)) else none
  | _ => none
def rRepr (K : PySem.W.Frag) : List V → Hp → VK → Prop := fun xs H Q => ∃ x d, xs = [x] ∧ Dq K H x d ∧ reprOk d = true ∧ Q (.str d.shown) H
theorem call_reprA {X : Cx} (hgd : X.A.guards = some []) (hu : X.A.units + 65 < cLine) : CallR X (.builtin "repr") (rRepr X.K) := by
  intro pins s σ H xs us Q I r h
  obtain ⟨x, d, rfl, hd, hc, q⟩ := h
  obtain ⟨u, rfl, rx⟩ := vals1 r
  simp only [reprOk, Bool.and_eq_true, decide_eq_true_eq] at hc
  obtain ⟨⟨hsh, hsw⟩, hz⟩ := hc
  have deep : ∀ (a : Addr), u = .ref a → x = .ref a → wpAny (model X.prog X.w) X.A (call (.builtin "repr") [.ref a]) (EP X pins σ Q) X.xe s := by
    intro a eu ex
    obtain ⟨as, rr⟩ := Dp.reads I d x u (dq_dp d x hd) rx
    rw [eu] at rr
    have hdp := SeqAt.depth_of_shaped hsh
    refine repr_of_reads' rr hsw (PyData.noDict_hsm (PyData.hasDict_of_canLay d (SeqAt.canLay_of_shaped hsh))) hgd (by omega) (fun _ _ e => e) (fun h' t tk hk => ⟨.str d.shown, H, I.kept hk, ⟨t, rfl⟩, q⟩) hz
  cases hd with
  | non =>
    cases rx
    exact PySem.P.repr_of_none ⟨.str "None", H, I.tok _, ⟨_, rfl⟩, q⟩
  | bl b =>
    cases rx
    exact PySem.P.repr_of_bool ⟨.str _, H, I.tok _, ⟨_, rfl⟩, q⟩
  | int i =>
    obtain ⟨t, rfl⟩ := rx
    exact PySem.P.repr_of_int (by simpa [PyData.showable] using hsw) ⟨.str _, H, I.tok _, ⟨_, rfl⟩, q⟩
  | str z =>
    obtain ⟨t, rfl⟩ := rx
    exact PySem.P.repr_of_str ⟨.str _, H, I.tok _, ⟨_, rfl⟩, q⟩ hz
  | lst h1 h2 =>
    obtain rfl : u = Value.ref _ := rx
    exact deep _ rfl rfl
  | tup h1 h2 =>
    obtain rfl : u = Value.ref _ := rx
    exact deep _ rfl rfl
theorem fRepr_ok {K : PySem.W.Frag} : PureC K fRepr (rRepr K) := by
  intro G H vs os o Q s w h k
  unfold fRepr at h
  split at h
  · simp only [Option.bind_eq_some_iff] at h
    obtain ⟨d, h1, h⟩ := h
    split at h
    · rename_i hc
      cases h
      obtain ⟨v, rfl, w1⟩ := one_views w rfl
      exact ⟨v, d, rfl, view_dq w1 s h1, hc, fin_val s k rfl (.str _)⟩
    · cases h
  · cases h

/-! ### slices -/
def cutD (xs : List D) (lo hi : Option Int) : List D := (xs.drop (HT.sIx xs.length 0 lo)).take (HT.sIx xs.length xs.length hi - HT.sIx xs.length 0 lo)
theorem dqs_cut {K : PySem.W.Frag} {G : Hp} {ds : List D} {vs : List V} (h : DqAll K G vs ds) (lo hi : Option Int) : DqAll K G (cutV vs lo hi) (cutD ds lo hi) := by
  unfold cutV cutD
  rw [dps_len h]
  exact dqs_take _ (dqs_drop _ h)
def cutO (o : O) (lo hi : Option Int) : Option O := match o with
  | .val (.tuple ds) => some (.val (.tuple (cutD ds lo hi)))
  | .val (.str z) => if z.length ≤ sizeLine then some (.val (.str (cutS z lo hi))) else none
  | o => (itemsL o).bind fun ds => some (.own ((cutD ds lo hi).map .val))
def rSl (K : PySem.W.Frag) : V → Option Int → Option Int → Hp → VK → Prop := fun x lo hi H Q => rSlL K x lo hi H Q ∨ rSlA K x lo hi H Q ∨ rSlS x lo hi H Q
theorem sl_any {X : Cx} : SlR X (rSl X.K) := sl_list.or (sl_tupA.or sl_str)
theorem sIx_lo {n : Nat} {lo : Option Int} (h : HT.sIx n 0 lo = 0) (xs : List D) : xs.drop (HT.sIx n 0 lo) = xs := by rw [h]; rfl
theorem cut_ok {K : PySem.W.Frag} {G H : Hp} {v : V} {o c : O} {lo hi : Option Int} {Q : VK} (s : Sub G H) (w : View K G H v c) (h : cutO c lo hi = some o) (k : ∀ v G' H' B, Ext G H G' H' B → Ro K G' H' v o B → Q v H') : rSl K v lo hi H Q := by
  unfold cutO at h
  split at h
  · rename_i ds
    cases h
    obtain ⟨a, vs, rfl, h1, d1⟩ := view_tup w s
    refine .inr (.inl ⟨a, vs, rfl, h1, fun ⟨e1, e2⟩ => fin_val s k ?_ (view_val w), fun _ => fin_tup s k rfl (dqs_cut d1 lo hi)⟩)
    rw [dps_len d1] at e1 e2
    unfold cutD
    rw [e1, e2]
    simp
  · rename_i z
    split at h
    · rename_i hz
      cases h
      exact .inr (.inr ⟨z, view_str w, hz, fin_val s k rfl (.str _)⟩)
    · cases h
  · simp only [Option.bind_eq_some_iff] at h
    obtain ⟨ds, h1, h2⟩ := h
    cases h2
    obtain ⟨a, vs, rfl, h3, d1⟩ := view_list w s h1
    exact .inl ⟨a, vs, rfl, h3.l, fin_lst s k rfl (dqs_cut d1 lo hi)⟩
def fSl0 : FO := fun os => match os with
  | [c] => cutO c none none
  | _ => none
def fSlL : FO := fun os => match os with
  | [c, .val (.int i)] => cutO c (some i) none
  | _ => none
def fSlH : FO := fun os => match os with
  | [c, .val (.int i)] => cutO c none (some i)
  | _ => none
def fSl2 : FO := fun os => match os with
  | [c, .val (.int i), .val (.int j)] => cutO c (some i) (some j)
  | _ => none
section
variable {X : Cx} {e a b : Expr} {p2 pos : Pos} {me ma mb : ME}
theorem ve_sl0 (he : VE X e me) : VE X (.Subscript e (.Slice none none none p2) pos) (mUn fSl0 me) :=
  PE.imp (pe_slice sl_any he po_none po_none) fun σ H Q q => by
    have hf : PureC X.K fSl0 (l1 fun x H Q => rSl X.K x none none H Q) := by
      intro G H vs os o Q s w h k
      unfold fSl0 at h
      split at h
      · obtain ⟨v, rfl, w1⟩ := one_views w rfl
        exact ⟨v, rfl, cut_ok s w1 h k⟩
      · cases h
    exact seq_one hf q
theorem ve_slL (he : VE X e me) (ha : VE X a ma) : VE X (.Subscript e (.Slice (some a) none none p2) pos) (mBin fSlL me ma) :=
  PE.imp (pe_slice sl_any he (po_some ha) po_none) fun σ H Q q => by
    have hf : PureC X.K fSlL (l2 fun x y H Q => ∃ i, y = .int i ∧ rSl X.K x (some i) none H Q) := by
      intro G H vs os o Q s w h k
      unfold fSlL at h
      split at h
      · obtain ⟨v, u, rfl, w1, w2⟩ := two_views w rfl
        exact ⟨v, u, rfl, _, view_int w2, cut_ok s w1 h k⟩
      · cases h
    exact seq_two hf q
theorem ve_slH (he : VE X e me) (ha : VE X a ma) : VE X (.Subscript e (.Slice none (some a) none p2) pos) (mBin fSlH me ma) :=
  PE.imp (pe_slice sl_any he po_none (po_some ha)) fun σ H Q q => by
    have hf : PureC X.K fSlH (l2 fun x y H Q => ∃ i, y = .int i ∧ rSl X.K x none (some i) H Q) := by
      intro G H vs os o Q s w h k
      unfold fSlH at h
      split at h
      · obtain ⟨v, u, rfl, w1, w2⟩ := two_views w rfl
        exact ⟨v, u, rfl, _, view_int w2, cut_ok s w1 h k⟩
      · cases h
    exact seq_two hf q
def mSl2 (me ma mb : ME) : ME := fun env => (me env).bind fun r1 => (ma r1.2).bind fun r2 => (look r2.1 r2.2).bind fun oi => (asInt oi).bind fun i => (mb r2.2).bind fun r3 => (look r3.1 r3.2).bind fun oj => (asInt oj).bind fun j =>
  (look r1.1 r3.2).bind fun c => (cutO c (some i) (some j)).bind fun o => some (.tmp o, r3.2)
theorem ve_sl2 (he : VE X e me) (ha : VE X a ma) (hb : VE X b mb) : VE X (.Subscript e (.Slice (some a) (some b) none p2) pos) (mSl2 me ma mb) :=
  PE.imp (pe_slice sl_any he (po_some ha) (po_some hb)) fun σ H Q q => by
    obtain ⟨P, G, env, fp, p, env', k, hm, c⟩ := q
    simp only [mSl2, Option.bind_eq_some_iff] at hm
    obtain ⟨⟨p1, e1⟩, z1, ⟨p2, e2⟩, z2, oi, l2, i, hi, ⟨p3, e3⟩, z3, oj, l3, j, hj, cc, l1, o, hc, hm⟩ := hm
    cases hm
    obtain rfl := asInt_eq hi
    obtain rfl := asInt_eq hj
    refine ⟨P, G, env, fp, p1, e1, k, z1, fun x G1 H1 fp1 B1 s1 k1 t1 => ⟨P, G1, e1, fp1, p2, e2, k1, z2, fun y G2 H2 fp2 B2 s2 k2 t2 => ⟨i, view_int (one_view k2 t2 l2), P, G2, e2, fp2, p3, e3, k2, z3, fun zz G3 H3 fp3 B3 s3 k3 t3 => ⟨j, view_int (one_view k3 t3 l3), ?_⟩⟩⟩⟩
    have t1' := ((t1.step s2).weak fun _ h => .inl h).step s3
    refine cut_ok k3.sub (one_view k3 t1' l1) hc fun v G4 H4 B4 x r => c v G4 H4 fp3 B4 ?_ (k3.ext x) (k3.extTmp x r)
    exact (((s1.less fun _ h => .inl h).trans (s2.less fun _ h => .inl h)).trans (s3.less fun _ h => .inl h)).trans (k3.extStp x)

/-! ### list(reversed(e)), {} -/
def fRevL : FO := fun os => match os with
  | [o] => (itemsL o).bind fun ds => some (.own (ds.reverse.map .val))
  | _ => none
theorem fRevL_ok {K : PySem.W.Frag} : PureC K fRevL (l1 fun v H Q => ∃ (a : Addr) (xs : List V), v = .ref a ∧ SqL K H a xs ∧ ∀ q, H q = none → Q (.ref q) (upd H q (.lst xs.reverse))) := by
  intro G H vs os o Q s w h k
  unfold fRevL at h
  split at h
  · simp only [Option.bind_eq_some_iff] at h
    obtain ⟨ds, h1, h⟩ := h
    cases h
    obtain ⟨v, rfl, w1⟩ := one_views w rfl
    obtain ⟨a, ws, rfl, h2, d1⟩ := view_list w1 s h1
    exact ⟨_, rfl, a, ws, rfl, h2.l, fin_lst s k rfl (dqs_reverse d1)⟩
  · cases h
theorem ve_lstRev {p p3 pos2 : Pos} (hc : X.calm = true) (hg : Gl X "list") (hm : X.mg "list" = none) (hg2 : Gl X "reversed") (hm2 : X.mg "reversed" = none) (he : VE X e me)
    (hs : starEach [e] X.env = (false, eval e X.env) :: starEach [] X.env := by rfl)
    (hs2 : starEach [.Call (.Name "reversed" p3) [e] [] pos2] X.env = (false, eval (.Call (.Name "reversed" p3) [e] [] pos2) X.env) :: starEach [] X.env := by rfl) :
    VE X (.Call (.Name "list" p) [.Call (.Name "reversed" p3) [e] [] pos2] [] pos) (mUn fRevL me) :=
  PE.imp (pe_lstRev hc hg hm hg2 hm2 he hs hs2) fun _ _ _ q => seq_one fRevL_ok q
theorem ve_revL {k : Nat} {p1 p4 p5 : Pos} (he : VE X e me) : VE X (.Subscript e (.Slice none none (some (.UnaryOp .USub (.Constant (.int 1) k p1) p4)) p5) pos) (mUn fRevL me) :=
  PE.imp (pe_revL he) fun _ _ _ q => seq_one fRevL_ok q
def mDic : ME := fun env => some (.tmp (.odic []), env)
theorem ve_dic : VE X (.Dict [] [] pos) mDic := by
  refine PE.imp pe_dnewK fun σ H Q q => ?_
  obtain ⟨P, G, env, fp, p, env', k, hm, c⟩ := q
  cases hm
  intro p np
  have x : Ext G H G (upd H p (.dK [])) [p] := Ext.new k.sub np
  exact c (.ref p) _ _ fp [p] (k.extStp x) (k.ext x) (k.extTmp x (.odic upd_same .nil))

/-! ### a method of a list that changes nothing -/
def isL : O → Bool
  | .own _ => true
  | .val (.list _) => true
  | _ => false
def mBm (f : FO) (mo : ME) (ms : MA) : ME := fun env => (mo env).bind fun r => (look r.1 r.2).bind fun o => if isL o = true then (ms r.2).bind fun s => (looks (r.1 :: s.1) s.2).bind fun os => (f os).bind fun o => some (.tmp o, s.2) else none
def l1s (r : V → List V → Hp → VK → Prop) : List V → Hp → VK → Prop := fun vs H Q => ∃ x xs, vs = x :: xs ∧ r x xs H Q
theorem bm_seq {K : PySem.W.Frag} {f : FO} {r : V → List V → Hp → VK → Prop} {mo : ME} {ms : MA} (hf : PureC K f (l1s r)) {σ : L2.St} {H : Hp} {Q : VK} (q : tN K (mBm f mo ms) σ H Q) : tN K mo σ H fun x H1 => tyV K "list" x H1 ∧ tNs K ms σ H1 fun xs H2 => r x xs H2 Q := by
  obtain ⟨P, G, env, fp, p, env', k, hm, c⟩ := q
  simp only [mBm, Option.bind_eq_some_iff] at hm
  obtain ⟨⟨p1, e1⟩, z1, o1, l1, hm⟩ := hm
  split at hm
  case isFalse => cases hm
  case isTrue hl =>
  simp only [Option.bind_eq_some_iff] at hm
  obtain ⟨⟨ps, e2⟩, z2, os, l2, o, hfo, hm⟩ := hm
  cases hm
  refine ⟨P, G, env, fp, p1, e1, k, z1, fun x G1 H1 fp1 B1 s1 k1 t1 => ⟨?_, P, G1, e1, fp1, ps, e2, k1, z2, fun xs G2 H2 fp2 B2 s2 k2 t2 => ?_⟩⟩
  · obtain ⟨B, w⟩ := one_view k1 t1 l1
    cases w with
    | val w =>
      cases w with
      | lst h1 h2 => exact .inl ⟨rfl, _, (sqk_mono k1.sub h1).l⟩
      | _ => cases hl
    | own h1 h2 => exact .inl ⟨rfl, _, SqL.of h1⟩
    | odic => cases hl
  · have tt := (t1.step s2).cons t2 fun _ h => h
    obtain ⟨_, _, e, h⟩ := hf G2 H2 (x :: xs) os o Q k2.sub (tt.rep.views k2 l2) hfo fun v G3 H3 B3 xx r => c v G3 H3 fp2 B3 (((s1.less fun _ h => .inl h).trans (s2.less fun _ h => .inl h)).trans (k2.extStp xx)) (k2.ext xx) (k2.extTmp xx r)
    cases e
    exact h
theorem ve_bm {es : List Expr} {name : Str} {apos cpos : Pos} {id : String} {r : V → List V → Hp → VK → Prop} {f : FO} {ms : MA} (pa : PlainAttrs "list") (slot : Slot "list" name id) (hty : typeOf (.builtin id) = pure (.type "method_descriptor")) (hm : MtR X id r) (hf : PureC X.K f (l1s r)) (ho : VE X a ma) (ha : VA X (e :: es) ms)
    (hbase : attributeBase a name X.env (eval a X.env) = eval a X.env := by rfl)
    (hfew : ((backTo cpos (starEach (e :: es) X.env)).all (fun x => !x.1) && (backToKw cpos (keywordEach [] X.env)).all (fun x => x.1.isSome)
      && decide ((e :: es).length + ([] : List Keyword).length + (if ([] : List Keyword).isEmpty then 0 else 1) < 30)) = true := by rfl)
    (hline : (apos.endLine == cpos.line) = true := by rfl) (hs : starEach (e :: es) X.env = (false, eval e X.env) :: starEach es X.env := by rfl) (hplain : (backTo cpos (starEach es X.env)).any (·.1) = false := by rfl) :
    VE X (.Call (.Attribute a name apos) (e :: es) [] cpos) (mBm f ma ms) :=
  PE.imp (pe_bm pa slot hty hm ho ha hbase hfew hline hs hplain) fun _ _ _ q => bm_seq hf q
def fCount : FO := fun os => match os with
  | [o, .val (.int k)] => (itemsL o).bind fun ds => (asInts ds).bind fun is => some (.val (.int (is.count k)))
  | _ => none
theorem fCount_ok {K : PySem.W.Frag} : PureC K fCount (l1s (rCntI K)) := by
  intro G H vs os o Q s w h k
  unfold fCount at h
  split at h
  · simp only [Option.bind_eq_some_iff] at h
    obtain ⟨ds, h1, is, h2, h4⟩ := h
    cases h4
    obtain ⟨v, u, rfl, w1, w2⟩ := two_views w rfl
    obtain ⟨a, rfl, hq⟩ := view_ints w1 s h1 h2
    exact ⟨_, _, rfl, a, is, _, rfl, by rw [view_int w2], hq, fin_val s k rfl (.int _)⟩
  · cases h
end
end Pv

namespace Pv
open PySem PySem.Spec PyProof.Rows L2

/-! ### a, b = x, y -/
@[simp] def mPar (i j : Nat) (tk : Opd → Env → Option (O × Env)) (ms : MA) : MS := fun env => (ms env).bind fun r => (takes tk r.1 r.2).bind fun s => match s.1 with
  | [a, b] => if i < s.2.length ∧ j < s.2.length then some (.nx ((s.2.set i (.wr a)).set j (.wr b))) else none
  | _ => none
@[simp] def mPar3 (i j l : Nat) (tk : Opd → Env → Option (O × Env)) (ms : MA) : MS := fun env => (ms env).bind fun r => (takes tk r.1 r.2).bind fun s => match s.1 with
  | [a, b, c] => if i < s.2.length ∧ j < s.2.length ∧ l < s.2.length then some (.nx (((s.2.set i (.wr a)).set j (.wr b)).set l (.wr c))) else none
  | _ => none
section
variable {X : Cx} {io : IO} {K : PySem.W.Frag} {P : Pt} {G H : Hp} {σ : L2.St} {env : Env} {fp : Fp}
/-- a value that stands apart is put to a slot -/
theorem Ok.putA {i : Nat} {v : V} {o : O} {B : List Addr} (k : Ok K P G H σ env fp) (hi : i < env.length) (r : Ro K G H v o B) (nd : B.Nodup) (off : ∀ a ∈ B, ¬ Own env fp a ∧ G a = none ∧ ¬ Pr P a) :
    Ok K P G H (σ.set i (some v)) (env.set i (.wr o)) (setF fp i B) := k.put hi r nd fun a ha => ⟨(off a ha).2.1, (off a ha).2.2, fun j q hj e ha' => (off a ha).1 ⟨j, q, e, ha'⟩⟩
theorem off_put {i : Nat} {o : O} {B C : List Addr} (h : ∀ a ∈ C, ¬ Own env fp a ∧ G a = none ∧ ¬ Pr P a) (d : ∀ a ∈ B, a ∉ C) : ∀ a ∈ C, ¬ Own (env.set i (.wr o)) (setF fp i B) a ∧ G a = none ∧ ¬ Pr P a :=
  fun a ha => ⟨fun q => (own_put q).elim (h a ha).1 fun q => d a q ha, (h a ha).2⟩
theorem Kio.set {σ σ' : L2.St} {i : Nat} {x : Option V} (a : Kio io σ σ') (h : io i = false) : Kio io σ (σ'.set i x) := a.trans (kio_set h)
variable {tk : Opd → Env → Option (O × Env)} {i j l : Nat} {x y z : Str} {a b c : Expr} {ms : MA} {px py pz pt pos : Pos} {kt k2 pt2}
theorem vs_par (tok : TakeOk tk) (hii : io i = false) (hij' : io j = false) (hc : X.calm = true) (hN : X.N.Nodup) (hi : X.N[i]? = some x) (hj : X.N[j]? = some y) (hij : i ≠ j)
    (hx : X.env.scope.names.lookup x = some .local) (hy : X.env.scope.names.lookup y = some .local) (ha : VA X [a, b] ms)
    (hw : swappedStores [.Tuple [.Name x px, .Name y py] kt pt] (.Tuple [a, b] k2 pt2) X.env = pure (some [x, y]))
    (hs : swapsWithSole [.Tuple [.Name x px, .Name y py] kt pt] (.Tuple [a, b] k2 pt2) pos.line X.env = pure false := by rfl) :
    VS X io (.Assign [.Tuple [.Name x px, .Name y py] kt pt] (.Tuple [a, b] k2 pt2) pos) (mPar i j tk ms) := by
  refine PS.imp (ps_par hc hN hi hj hij hx hy ha hw hs) fun D σ H q => ?_
  obtain ⟨P, G, env, fp, c, k, hm, h⟩ := q
  simp only [mPar, Option.bind_eq_some_iff] at hm
  obtain ⟨⟨ps, e1⟩, z, ⟨os, e2⟩, z2, hm⟩ := hm
  split at hm
  · rename_i o1 o2 he
    have he : os = [o1, o2] := he
    subst he
    split at hm
    · rename_i hl
      cases hm
      refine ⟨P, G, env, fp, ps, e1, k, z, fun vs G1 H1 fp1 B s k1 t => ?_⟩
      obtain ⟨G2, fp2, C, ge, frz, k2, rs, nd, off, sub, own⟩ := takes_ok tok k1 t z2
      cases rs with
      | @cons v _ A1 _ _ C' r1 rs =>
        cases rs with
        | @cons w _ A2 _ _ _ r2 rs =>
          cases rs
          rw [List.append_nil] at nd off sub
          obtain ⟨n1, n2, n3⟩ := List.nodup_append.mp nd
          have k3 := k2.putA (v := v) hl.1 r1 n1 fun a ha => off a (List.mem_append_left _ ha)
          have off2 := off_put (i := i) (o := o1) (fun a ha => off a (List.mem_append_right _ ha)) (fun a ha hb => n3 a ha a hb rfl)
          have k4 := k3.putA (v := w) (i := j) (by rw [List.length_set]; exact hl.2) r2 n2 off2
          refine ⟨v, w, rfl, h G2 H1 _ _ ⟨s.trans ⟨ge, fun _ _ h _ => h, fun a h => ?_, fun a u h => (frz a u h).imp id .inl⟩, (kio_set hii).set hij', k4⟩⟩
          rcases own_put h with h | h
          · rcases own_put h with h | h
            · exact .inl (.inl (own a h))
            · exact .inl ((sub a (List.mem_append_left _ h)).symm)
          · exact .inl ((sub a (List.mem_append_right _ h)).symm)
    · cases hm
  · cases hm
theorem vs_par3 (tok : TakeOk tk) (hii : io i = false) (hij' : io j = false) (hil' : io l = false) (hc : X.calm = true) (hN : X.N.Nodup) (hi : X.N[i]? = some x) (hj : X.N[j]? = some y) (hl : X.N[l]? = some z) (hij : i ≠ j) (hil : i ≠ l) (hjl : j ≠ l)
    (hx : X.env.scope.names.lookup x = some .local) (hy : X.env.scope.names.lookup y = some .local) (hz : X.env.scope.names.lookup z = some .local) (ha : VA X [a, b, c] ms)
    (hw : swappedStores [.Tuple [.Name x px, .Name y py, .Name z pz] kt pt] (.Tuple [a, b, c] k2 pt2) X.env = pure (some [x, y, z]))
    (hs : swapsWithSole [.Tuple [.Name x px, .Name y py, .Name z pz] kt pt] (.Tuple [a, b, c] k2 pt2) pos.line X.env = pure false := by rfl) :
    VS X io (.Assign [.Tuple [.Name x px, .Name y py, .Name z pz] kt pt] (.Tuple [a, b, c] k2 pt2) pos) (mPar3 i j l tk ms) := by
  refine PS.imp (ps_par3 hc hN hi hj hl hij hil hjl hx hy hz ha hw hs) fun D σ H q => ?_
  obtain ⟨P, G, env, fp, c, k, hm, h⟩ := q
  simp only [mPar3, Option.bind_eq_some_iff] at hm
  obtain ⟨⟨ps, e1⟩, z, ⟨os, e2⟩, z2, hm⟩ := hm
  split at hm
  · rename_i o1 o2 o3 he
    have he : os = [o1, o2, o3] := he
    subst he
    split at hm
    · rename_i hl
      cases hm
      refine ⟨P, G, env, fp, ps, e1, k, z, fun vs G1 H1 fp1 B s k1 t => ?_⟩
      obtain ⟨G2, fp2, C, ge, frz, k2, rs, nd, off, sub, own⟩ := takes_ok tok k1 t z2
      cases rs with
      | @cons v _ A1 _ _ C' r1 rs =>
        cases rs with
        | @cons w _ A2 _ _ C2 r2 rs =>
          cases rs with
          | @cons w3 _ A3 _ _ _ r3 rs =>
            cases rs
            rw [List.append_nil] at nd off sub
            obtain ⟨n1, n2, n3⟩ := List.nodup_append.mp nd
            obtain ⟨m1, m2, m3⟩ := List.nodup_append.mp n2
            have k3 := k2.putA (v := v) hl.1 r1 n1 fun a ha => off a (List.mem_append_left _ ha)
            have off2 := off_put (i := i) (o := o1) (fun a ha => off a (List.mem_append_right _ ha)) (fun a ha hb => n3 a ha a hb rfl)
            have k4 := k3.putA (v := w) (i := j) (by rw [List.length_set]; exact hl.2.1) r2 m1 fun a ha => off2 a (List.mem_append_left _ ha)
            have off3 := off_put (i := j) (o := o2) (fun a ha => off2 a (List.mem_append_right _ ha)) (fun a ha hb => m3 a ha a hb rfl)
            have k5 := k4.putA (v := w3) (i := l) (by rw [List.length_set, List.length_set]; exact hl.2.2) r3 m2 off3
            refine ⟨v, w, w3, rfl, h G2 H1 _ _ ⟨s.trans ⟨ge, fun _ _ h _ => h, fun a h => ?_, fun a u h => (frz a u h).imp id .inl⟩, ((kio_set hii).set hij').set hil', k5⟩⟩
            rcases own_put h with h | h
            · rcases own_put h with h | h
              · rcases own_put h with h | h
                · exact .inl (.inl (own a h))
                · exact .inl ((sub a (List.mem_append_left _ h)).symm)
              · exact .inl ((sub a (List.mem_append_right _ (List.mem_append_left _ h))).symm)
            · exact .inl ((sub a (List.mem_append_right _ (List.mem_append_right _ h))).symm)
    · cases hm
  · cases hm
end

/-! ### name[c] of an own list that is a list of its own -/
theorem ros_sub {K : PySem.W.Frag} {G H : Hp} {xs : List O} : ∀ {os : List O} {vs : List V} {L : List Addr} {c : Nat}, Ros K G H vs os L → os[c]? = some (.own xs) → L.Nodup →
    ∃ a ws C, vs[c]? = some (.ref a) ∧ H a = some (.lst ws) ∧ Ros K G H ws xs C ∧ (a :: C).Nodup ∧ (∀ x ∈ a :: C, x ∈ L) ∧
      ∀ ws' xs' C', Ros K G (upd H a (.lst ws')) ws' xs' C' → (∀ x ∈ C', x ∈ C) → C'.Nodup → ∃ L', Ros K G (upd H a (.lst ws')) vs (os.set c (.own xs')) L' ∧ L'.Nodup ∧ ∀ x ∈ L', x ∈ L
  | [], vs, L, c, h, e, nd => by simp at e
  | o :: os, vs, L, 0, h, e, nd => by
    simp at e
    subst e
    cases h with
    | @cons v _ A1 vs' _ B1 h1 h2 =>
      cases h1 with
      | @own a ws _ C q1 q2 =>
        have n1 := List.nodup_append.mp nd
        refine ⟨a, ws, C, rfl, q1, q2, n1.1, fun x hx => List.mem_append_left _ hx, fun ws' xs' C' r sub nd' => ?_⟩
        have aC : a ∉ C' := fun q => (List.nodup_cons.mp n1.1).1 (sub a q)
        have sub2 : ∀ x ∈ a :: C', x ∈ a :: C := fun x hx => by
          rcases List.mem_cons.mp hx with h | h
          · rw [h]; simp
          · exact List.mem_cons_of_mem _ (sub x h)
        refine ⟨(a :: C') ++ B1, .cons (.own upd_same r) (ros_mono (Sub.refl _) _ _ _ (fun x hx => upd_ne fun e => n1.2.2 a (by simp) x hx e.symm) h2), List.nodup_append.mpr ⟨List.nodup_cons.mpr ⟨aC, nd'⟩, n1.2.1, fun x hx y hy => n1.2.2 x (sub2 x hx) y hy⟩, fun x hx => ?_⟩
        rcases List.mem_append.mp hx with h | h
        · exact List.mem_append_left _ (sub2 x h)
        · exact List.mem_append_right _ h
  | o :: os, vs, L, c + 1, h, e, nd => by
    cases h with
    | @cons v _ A1 vs' _ B1 h1 h2 =>
      have n1 := List.nodup_append.mp nd
      obtain ⟨a, ws, C, e1, e2, e3, e4, e5, e6⟩ := ros_sub h2 (by simpa using e) n1.2.1
      refine ⟨a, ws, C, by simpa using e1, e2, e3, e4, fun x hx => List.mem_append_right _ (e5 x hx), fun ws' xs' C' r sub nd' => ?_⟩
      obtain ⟨L', f1, f2, f3⟩ := e6 ws' xs' C' r sub nd'
      refine ⟨A1 ++ L', .cons (ro_mono (Sub.refl _) _ _ _ (fun x hx => upd_ne fun e => n1.2.2 x hx a (e5 a (by simp)) e) h1) f1, List.nodup_append.mpr ⟨n1.1, f2, fun x hx y hy => n1.2.2 x hx y (f3 y hy)⟩, fun x hx => ?_⟩
      rcases List.mem_append.mp hx with h | h
      · exact List.mem_append_left _ h
      · exact List.mem_append_right _ (f3 x h)
/-- name[c].pop() -/
def mPopAt (i c : Nat) : ME := fun env => match env[i]? with
  | some (.wr (.own os)) => (match os[c]? with
    | some (.own xs) => (lPop xs []).bind fun q => some (.tmp (.val q.2), env.set i (.wr (.own (os.set c (.own q.1)))))
    | _ => none)
  | _ => none
/-- name[c] != [] -/
def mNeAt (i c : Nat) : MT := fun env => match env[i]? with
  | some (.wr (.own os)) => (match os[c]? with
    | some (.own xs) => (vals xs).bind fun ds => if SeqAt.shaped (.list ds) = true then some (!PyData.eqv (.list ds) (.list []), env) else none
    | _ => none)
  | _ => none
section
variable {X : Cx} {i c : Nat} {x : Str} {px p0 p1 p2 p3 pos apos cpos : Pos} {kk : Nat}
theorem atI_of {α : Type} {xs : List α} {c : Nat} {v : α} (h : xs[c]? = some v) : atI xs (c : Int) = some v := by
  have hl : c < xs.length := (List.getElem?_eq_some_iff.mp h).1
  unfold atI ixN
  rw [if_pos (by omega), if_pos (by omega)]
  exact h
theorem ve_popAt (hn : PE X (.Name x px) (tVar i)) (ho : PE X (.Constant (.int (c : Int)) kk p0) (tC (.int (c : Int)))) (hs : PlainIx (.Constant (.int (c : Int)) kk p0))
    (hbase : attributeBase (.Subscript (.Name x px) (.Constant (.int (c : Int)) kk p0) p1) "pop" X.env (eval (.Subscript (.Name x px) (.Constant (.int (c : Int)) kk p0) p1) X.env) = eval (.Subscript (.Name x px) (.Constant (.int (c : Int)) kk p0) p1) X.env := by rfl)
    (hline : (apos.endLine == cpos.line) = true := by rfl) :
    VE X (.Call (.Attribute (.Subscript (.Name x px) (.Constant (.int (c : Int)) kk p0) p1) "pop" apos) [] [] cpos) (mPopAt i c) := by
  refine PE.imp (pe_bm0 PySem.F.plainAttrs_list PySem.F.slot_list_pop (by rfl) mt_pop (pe_ix ix_list hn ho hs) hbase hline) fun σ H Q q => ?_
  obtain ⟨P, G, env, fp, p, env', k, hm, h⟩ := q
  unfold mPopAt at hm
  split at hm
  · rename_i os e
    split at hm
    · rename_i xs e2
      simp only [Option.bind_eq_some_iff] at hm
      obtain ⟨⟨ys, d⟩, hp, hm⟩ := hm
      cases hm
      obtain ⟨A0, vs, L, hv, hH, rs, hfp, ndL⟩ := k.root e
      obtain ⟨a, ws, C, f1, f2, f3, f4, f5, f6⟩ := ros_sub rs e2 (List.nodup_cons.mp ndL).2
      refine ⟨_, hv, A0, vs, (c : Int), _, rfl, rfl, SqL.of hH, atI_of f1, .inl ⟨rfl, ws, SqL.of f2⟩, ?_⟩
      obtain ⟨ws', C', g1, g2, g3, g4⟩ := lPop_ok G H a ws [] xs [] ys d C [] Q k.sub f2 f3 .nil (by rw [List.append_nil]; exact (List.nodup_cons.mp f4).2) (by rw [List.append_nil]; exact (List.nodup_cons.mp f4).1) hp
      refine g4 fun v dv => ?_
      have g3' : ∀ x ∈ C', x ∈ C := fun x hx => (g3 x hx).elim id fun q => nomatch q
      have aC' : a ∉ C' := fun q => (List.nodup_cons.mp f4).1 (g3' a q)
      obtain ⟨L', r1, r2, r3⟩ := f6 ws' ys C' (ros_mono (Sub.refl _) _ _ _ (fun x hx => upd_ne fun e => aC' (by rw [← e]; exact hx)) g1) g3' g2
      have inL : a ∈ L := f5 a (by simp)
      have naA0 : A0 ≠ a := fun e => (List.nodup_cons.mp ndL).1 (by rw [e]; exact inL)
      have nA0L' : A0 ∉ L' := fun q => (List.nodup_cons.mp ndL).1 (r3 A0 q)
      have own : Own env fp a := ⟨i, _, e, by rw [hfp]; exact List.mem_cons_of_mem _ inL⟩
      have hi : i < env.length := (List.getElem?_eq_some_iff.mp e).1
      have k1 : Ok X.K P G (upd H a (.lst ws')) σ (env.set i .emp) fp := (k.drop i).updT ⟨fun ⟨j, q, e', ha⟩ => by
        obtain ⟨hj, e'⟩ := set_emp e' (by simp)
        exact k.apart j i q _ a hj e' e ha (by rw [hfp]; exact List.mem_cons_of_mem _ inL), k.off i _ a e (by rw [hfp]; exact List.mem_cons_of_mem _ inL), k.free i _ a e (by rw [hfp]; exact List.mem_cons_of_mem _ inL)⟩
      have sub' : ∀ x ∈ A0 :: L', x ∈ fp i := fun x hx => by
        rw [hfp]
        rcases List.mem_cons.mp hx with h | h
        · rw [h]; simp
        · exact List.mem_cons_of_mem _ (r3 x h)
      have k2 := k1.put (i := i) (v := .ref A0) (o := .own (os.set c (.own ys))) (B := A0 :: L') (by rw [List.length_set]; exact hi) (.own (by rw [upd_ne naA0]; exact hH) r1) (List.nodup_cons.mpr ⟨nA0L', r2⟩) fun x hx =>
        ⟨k.off i _ x e (sub' x hx), k.free i _ x e (sub' x hx), fun j q hj e' ha' => k.apart j i q _ x hj (set_emp e' (by simp)).2 e ha' (sub' x hx)⟩
      rw [set_same hv, List.set_set] at k2
      refine h v G _ _ [] ⟨Sub.refl _, fun b w hb n => ?_, fun b hb => ?_, fun _ _ h => .inl h⟩ k2 (k2.extTmp (Ext.refl k2.sub) (.val dv))
      · rw [upd_ne fun q => n (by rw [q]; exact own)]; exact hb
      · rcases hb with hb | hb
        · rcases own_put hb with hb | hb
          · exact .inl hb
          · exact .inl ⟨i, _, e, sub' b hb⟩
        · cases hb
    · cases hm
  · cases hm
theorem vt_neAt (hn : PE X (.Name x px) (tVar i)) (ho : PE X (.Constant (.int (c : Int)) kk p0) (tC (.int (c : Int)))) (hs : PlainIx (.Constant (.int (c : Int)) kk p0)) (hu : X.A.units + 64 < cLine)
    (hm : behindInMarks .NotEq (.List [] p2) = false := by rfl) : VT X (.Compare (.Subscript (.Name x px) (.Constant (.int (c : Int)) kk p0) p1) [.NotEq] [.List [] p2] pos) (mNeAt i c) := by
  refine PT.imp (pt_cmpR (op_neD hu) (pe_ix ix_list hn ho hs) (pe_lst pa_nil) hm) fun σ H Q q => ?_
  obtain ⟨P, G, env, fp, p, env', k, hm, h⟩ := q
  unfold mNeAt at hm
  split at hm
  · rename_i os e
    split at hm
    · rename_i xs e2
      simp only [Option.bind_eq_some_iff] at hm
      obtain ⟨ds, hd, hm⟩ := hm
      split at hm
      · rename_i hc
        cases hm
        obtain ⟨A0, vs, L, hv, hH, rs, hfp, ndL⟩ := k.root e
        obtain ⟨v1, f1, w1⟩ := ros_at rs e2
        refine ⟨_, hv, A0, vs, (c : Int), _, rfl, rfl, SqL.of hH, atI_of f1, ?_⟩
        refine ⟨Nat.zero_le _, fun p np => ?_⟩
        have x : Ext G H G (upd H p (.lst [])) [p] := Ext.new k.sub np
        obtain ⟨B1, r1⟩ := w1
        have r1' : Ro X.K G (upd H p (.lst [])) v1 (.own xs) B1 := ro_mono (Sub.refl _) _ _ _ (fun a ha => by obtain ⟨u, q⟩ := ro_some _ _ _ r1 a ha; rw [q]; exact x.keep _ _ q) r1
        have d1 : Dq X.K (upd H p (.lst [])) v1 (.list ds) := view_dq ⟨B1, r1'⟩ x.sub (by rw [vals_eq hd]; simp)
        have d2 : Dq X.K (upd H p (.lst [])) (.ref p) (.list []) := .lst (.inl (.inl upd_same)) .nil
        exact ⟨_, _, dq_dp _ _ d1, dq_dp _ _ d2, hc, by decide +kernel, _, rfl, h G _ fp ((k.extStp x).less fun _ h => .inl h) (k.ext x)⟩
      · cases hm
    · cases hm
  · cases hm
end
end Pv

namespace Pv
open PySem PySem.Spec PyProof.Rows L2

/-! ### the end of a law -/
theorem law_callG {P : Program} {w : World} {K : PySem.W.Frag} {mg mb : Str → Option Value} {k : Nat} {fa a : Addr} {fd : FuncData} {x : Str} {sp : SpG} {s1 : Shared} {us : List Value} {ns : List Int}
    (KX : K.In s1.heap) (hns : s1.heap.Ns mainGlobals mg) (hb : s1.heap.Ns builtinsNs mb) (hbb : ∀ x : Str, x ≠ "__name__" → mb x = bootBuiltins x) (hlim : s1.heap.NoLimit) (hg : s1.gens = #[])
    (ha : s1.heap.get? a = some { cls := .type "list", data := .seq us.toArray }) (hi : IntsAre us ns) (hl : ns.length ≤ sizeLine) (hr : Room k callerA)
    (F : ∀ base : Heap, K.In base → base.Ns mainGlobals mg → FnG P w K mg base k fa fd [x] sp) (hbind : ∀ (s : Shared) (u : Value), BindsTo s fd ⟨[u], []⟩ [(x, u)])
    (hsp : ∀ H : Hp, SqK K H a (ns.map V.int) → sp [.ref a] H (fun v _ => v = .bl true)) :
    codeAny (model P w) callerA (.call (.ref fa) ⟨[.ref a], []⟩) (fun r s' => r = .ok (.ret (.bool true)) ∧ OldK s1.heap s'.heap ∧ s'.os = s1.os ∧ AllBare s'.gens) s1 := by
  have rv := vals_ints hi
  have lenV := hi.length
  have main : ∀ T : Hp, L2.Only T → SqK K T a (ns.map V.int) → HOk P w T s1.heap → (∀ b, T b ≠ none → b = a) → (T a ≠ none → K.lookup a = none) →
      codeAny (model P w) callerA (.call (.ref fa) ⟨[.ref a], []⟩) (fun r s' => r = .ok (.ret (.bool true)) ∧ OldK s1.heap s'.heap ∧ s'.os = s1.os ∧ AllBare s'.gens) s1 := by
    intro T hO hS hok hA hK
    have notDict : ∀ {b : Addr} {o : Obj} {es : Array DictEntry} {ep : Nat}, s1.heap.get? b = some o → o.data = .dict es ep → T b = none := fun {b o es ep} e d => by
      cases q : T b with
      | none => rfl
      | some u =>
        obtain rfl := hA b (by rw [q]; simp)
        rw [ha] at e
        cases e
        cases (show Data.seq us.toArray _ = Data.dict es ep from d)
    have nsT : ∀ {b : Addr} {m : Str → Option Value}, s1.heap.Ns b m → (hidT s1.heap T).Ns b m := fun {b m} ⟨o, es, ep, e, d, r⟩ => ⟨o, es, ep, hidT_get e (notDict e d), d, r⟩
    have kin : K.In (hidT s1.heap T) := fun b o e => hidT_get (KX b o e) (by
      cases q : T b with
      | none => rfl
      | some u =>
        obtain rfl := hA b (by rw [q]; simp)
        rw [hK (by rw [q]; simp)] at e
        cases e)
    have md : Mod K mg (hidT s1.heap T) := ⟨kin, nsT hns, ⟨mb, nsT hb, hbb⟩, let ⟨mc, z1, z2⟩ := hlim; ⟨mc, nsT z1, z2⟩⟩
    have e0 : Env0 P w K mg (hidT s1.heap T) callerA [] s1 T := ⟨rfl, md, fun b o e => of_hidT e, Nat.le_of_eq (hidT_size _ _), trivial, fun b q => absurd (show b ∈ ([] : List Addr) from q) (by simp), hok, .of_eq hg⟩
    refine codeAny_mono ((F _ kin (nsT hns)).run callerA [] s1 T ⟨[.ref a], []⟩ [.ref a] [.ref a] _ hr rfl e0 (hbind s1 (.ref a)) (.cons rfl .nil) (hsp T hS)) fun r s' h => ?_
    cases r with
    | error e => exact False.elim h
    | ok fl =>
      cases fl with
      | next => exact h.elim
      | brk => exact h.elim
      | cont => exact h.elim
      | ret u =>
        obtain ⟨v, T', os, bare, un, hok', r', q⟩ := h
        obtain rfl : v = .bl true := q
        obtain rfl : u = Value.bool true := r'
        refine ⟨rfl, OldK.of_keep fun b o e => ?_, os, bare⟩
        rcases hO b with z | ⟨ob, xs, z⟩
        · exact un.keep b o e z (by intro z; exact absurd (show b ∈ ([] : List Addr) from z) (by simp)) (by simp)
        · have z2 := un.frzs b ob _ z
          obtain ⟨q1, _⟩ := hok b _ z
          obtain ⟨q2, _⟩ := hok' b _ z2
          rw [e] at q1
          cases q1
          exact q2
  cases hk : K.lookup a with
  | some o =>
    have e := KX a o hk
    rw [ha] at e
    cases e
    exact main (fun _ => none) (fun _ => .inl rfl) (.inr ⟨us, _, hk, by rw [lenV]; exact hl, rv⟩) (fun b u z => by cases (show (none : Option HO) = some u from z)) (fun b z => absurd rfl z) fun z => absurd rfl z
  | none =>
    refine main (fun b => if b = a then some (.frz { cls := .type "list", data := .seq us.toArray } (.lst (ns.map V.int))) else none) (fun b => ?_) (.inl (.inr ⟨{ cls := .type "list", data := .seq us.toArray }, if_pos rfl⟩)) (fun b u z => ?_) (fun b z => ?_) fun _ => hk
    · by_cases q : b = a
      · exact .inr ⟨_, _, if_pos q⟩
      · exact .inl (if_neg q)
    · by_cases q : b = a
      · cases (if_pos q).symm.trans z
        subst q
        exact ⟨ha, by rw [List.length_map]; exact hl, us, _, rv, ha⟩
      · cases (if_neg q).symm.trans z
    · by_cases q : b = a
      · exact q
      · exact absurd (if_neg q) z
theorem dqs_intsL {K : PySem.W.Frag} {G : Hp} (ns : List Int) : DqAll K G (ns.map V.int) (ns.map .int) := ints_dqs
/-- a law's def, its mirror: true for every script -/
def lawTrue (n : Nat) (F : MF) : Prop := ∀ ns : List Int, ns.length ≤ n → ∃ e, F [.wr (.val (.list (ns.map .int)))] = some (.val (.bool true), e)
theorem law_start {K : PySem.W.Frag} {H : Hp} {a : Addr} {ns : List Int} {F : MF} {n : Nat} (h : lawTrue n F) (hn : ns.length ≤ n) (hS : SqK K H a (ns.map V.int)) : spF K 1 F [.ref a] H (fun v _ => v = .bl true) := by
  obtain ⟨e, he⟩ := h ns hn
  refine ⟨rfl, fun _ _ => False, H, [.wr (.val (.list (ns.map .int)))], fun _ => [], _, e, ?_, he, fun G' H' fp' v B _ _ r _ _ => ?_⟩
  · refine ⟨rfl, fun i o q => ?_, fun i o q => ?_, Sub.refl _, fun _ _ _ => List.nodup_nil, fun _ _ _ _ q => (nomatch q), fun _ _ _ _ _ _ _ _ q => (nomatch q), fun _ _ _ _ q => (nomatch q), fun _ _ _ _ q => (nomatch q), fun a q => q.elim fun _ q => q.elim⟩
    · cases i with
      | zero => cases q; exact ⟨.ref a, rfl, .val (.lst hS (dqs_intsL ns))⟩
      | succ i => simp at q
    · cases i with
      | zero => cases q
      | succ i => simp at q
  · obtain ⟨r, _⟩ := ro_val_inv r
    cases r
    rfl
theorem walk_ofG {l : PySem.W.OpenLaw} {n k : Nat} {q : Program} {loose : List Str} {XP : (Str → Option Value) → Heap → Prop} {YP : World → Heap → Prop} {d : DefRec} {K : Params → PySem.W.Frag} {x : Str} {F : MF}
    (hn : l.most = some n) (hn2 : n ≤ sizeLine) (hdf : d.params.defaults = []) (hr : Room k callerA) (hY : ∀ (w : World) (h : Heap), YP w h → (K w.params).In h)
    (hF : ∀ (w : World) (mg : Str → Option Value) (fa : Addr) (h : Heap), (K w.params).In h → h.Ns mainGlobals mg → mg d.name = some (.ref fa) →
      ∃ fd : FuncData, (∀ (s : Shared) (u : Value), BindsTo s fd ⟨[u], []⟩ [(x, u)]) ∧ ∀ base : Heap, (K w.params).In base → base.Ns mainGlobals mg → FnG l.prog w (K w.params) mg base k fa fd [x] (spF (K w.params) 1 F))
    (hlaw : lawTrue n F) : PySem.W.WalkO q loose XP YP l.row.toRowW d [] (fun f vs => PySem.call f vs) := by
  refine Att.attach_call hn hdf fun w s0 s1 mg mb fa o pm cd doc a vs ns Gx Y ho hd hcd hmg hobj hints hlen hg => ?_
  have KX := hY w _ Y
  obtain ⟨fd, hb, hFn⟩ := hF w mg fa _ KX Gx.T.g hmg
  exact law_callG KX Gx.T.g Gx.T.b Gx.T.builtins Gx.T.nolimit hg hobj hints (Nat.le_trans hlen hn2) hr hFn hb fun H hS => law_start hlaw hlen hS
/-! ### room -/
theorem hu65 {A : Around} {k : Nat} (hr : Room k A) : A.units + 65 < cLine := by have := hr.un; omega
theorem hu64 {A : Around} {k : Nat} (hr : Room k A) : A.units + 64 < cLine := by have := hr.un; omega
theorem hu1 {A : Around} {k : Nat} (hr : Room k A) : A.units + 1 < cLine := by have := hr.un; omega
theorem hu0 {A : Around} {k : Nat} (hr : Room k A) : A.units < cLine := by have := hr.un; omega
end Pv

namespace Pv
open PySem PySem.Spec PyProof.Rows L2

/-! ### plain work with the mirrors -/
theorem mWhile_end {t : MT} {b : MS} {env e : Env} (h : t env = some (false, e)) : mWhile t b env = some (.nx e) := mWhile_of (n := 1) (by simp [whileN, h])
theorem mWhile_go {t : MT} {b : MS} {env e e1 : Env} {c : Ctl} (h : t env = some (true, e)) (h1 : b e = some (.nx e1)) (h2 : mWhile t b e1 = some c) : mWhile t b env = some c := by
  obtain ⟨n, hn⟩ := of_mWhile h2
  exact mWhile_of (n := n + 1) (by simp [whileN, h, h1, hn])
abbrev vi (i : Int) : Sl := .wr (.val (.int i))
abbrev vd (d : D) : Sl := .wr (.val d)
abbrev oi (i : Int) : O := .val (.int i)
theorem log2_mono {a b : Nat} (h : a ≤ b) : a.log2 ≤ b.log2 := by
  by_cases ha : a = 0
  · subst ha; simp
  · exact (Nat.le_log2 (by omega)).mpr (Nat.le_trans (Nat.log2_self_le ha) h)
theorem log2_lt {a k : Nat} (h : a < 2 ^ k) (hk : 0 < k) : a.log2 < k := by
  by_cases ha : a = 0
  · subst ha; simpa using hk
  · exact (Nat.log2_lt ha).mpr h
theorem mulOk_of {i j : Int} {a b : Nat} (hi : i.natAbs < 2 ^ a) (hj : j.natAbs < 2 ^ b) (h : a + b ≤ 1000000) (ha : 0 < a) (hb : 0 < b) : mulOk i j = true := by
  have h1 := log2_lt hi ha
  have h2 := log2_lt hj hb
  simp only [mulOk, decide_eq_true_eq]
  omega
theorem divOk_of {i j : Int} {b : Nat} (hp : 0 < j) (hj : j.natAbs < 2 ^ b) (h : b ≤ 9000) (hb : 0 < b) : divOk i j = true := by
  have h2 := log2_lt hj hb
  simp only [divOk, Bool.and_eq_true, decide_eq_true_eq]
  exact ⟨hp, by omega⟩
/-- products of small numbers -/
@[simp] theorem mulOk_small {i j : Int} (hi : i.natAbs < 2 ^ 200) (hj : j.natAbs < 2 ^ 200) : mulOk i j = true := mulOk_of hi hj (by decide) (by decide) (by decide)
@[simp] theorem divOk_small {i j : Int} (hp : 0 < j) (hj : j.natAbs < 2 ^ 200) : divOk i j = true := divOk_of hp hj (by decide) (by decide)
@[simp] theorem szl : sizeLine = 16777216 := sizeLine_eq
end Pv

namespace Pv
open PySem PySem.Spec PyProof.Rows L2

/-! ### data that can be shown -/
mutual
def fine : D → Bool
  | .none => true
  | .bool _ => true
  | .int i => decide (i.natAbs < 10 ^ 12)
  | .str x => x.cps.all (· < 0x110000)
  | .list xs => fines xs
  | .tuple xs => fines xs
  | .dict _ => false
def fines : List D → Bool
  | [] => true
  | x :: xs => fine x && fines xs
end
theorem fines_iff : ∀ {xs : List D}, fines xs = true ↔ ∀ x ∈ xs, fine x = true
  | [] => by simp [fines]
  | x :: xs => by simp [fines, fines_iff (xs := xs)]
mutual
theorem fine_lay : ∀ (d : D), fine d = true → d.canLay0 = true
  | .none, _ => by simp [PyData.canLay0]
  | .bool _, _ => by simp [PyData.canLay0]
  | .int _, _ => by simp [PyData.canLay0]
  | .str x, h => by simpa [PyData.canLay0, PyData.strOk, fine] using h
  | .list xs, h => by simp only [PyData.canLay0]; exact fines_lay xs (by simpa [fine] using h)
  | .tuple xs, h => by simp only [PyData.canLay0]; exact fines_lay xs (by simpa [fine] using h)
  | .dict _, h => by simp [fine] at h
theorem fines_lay : ∀ (ds : List D), fines ds = true → PyData.canLayAll0 ds = true
  | [], _ => by simp [PyData.canLayAll0]
  | d :: ds, h => by
    simp only [fines, Bool.and_eq_true] at h
    simp only [PyData.canLayAll0, Bool.and_eq_true]
    exact ⟨fine_lay d h.1, fines_lay ds h.2⟩
end
mutual
theorem fine_show : ∀ (d : D), fine d = true → d.showable = true
  | .none, _ => by simp [PyData.showable]
  | .bool _, _ => by simp [PyData.showable]
  | .int i, h => by
    simp only [fine, decide_eq_true_eq] at h
    simp only [PyData.showable, decide_eq_true_eq]
    exact Nat.lt_trans (log2_lt (k := 200) (Nat.lt_trans h (by decide)) (by decide)) (by decide)
  | .str x, h => by simp [PyData.showable]
  | .list xs, h => by simp only [PyData.showable]; exact fines_show xs (by simpa [fine] using h)
  | .tuple xs, h => by simp only [PyData.showable]; exact fines_show xs (by simpa [fine] using h)
  | .dict _, h => by simp [fine] at h
theorem fines_show : ∀ (ds : List D), fines ds = true → PyData.showableAll ds = true
  | [], _ => by simp [PyData.showableAll]
  | d :: ds, h => by
    simp only [fines, Bool.and_eq_true] at h
    simp only [PyData.showableAll, Bool.and_eq_true]
    exact ⟨fine_show d h.1, fines_show ds h.2⟩
end
mutual
theorem fine_short : ∀ (d : D), fine d = true → d.leavesShort 13 = true
  | .none, _ => by simp [PyData.leavesShort]
  | .bool _, _ => by simp [PyData.leavesShort]
  | .int i, h => by
    simp only [fine, decide_eq_true_eq] at h
    simp only [PyData.leavesShort, decide_eq_true_eq]
    exact PyData.shown_int_le h
  | .str x, h => by
    simp only [fine, Array.all_eq_true', decide_eq_true_eq] at h
    simp only [PyData.leavesShort, List.all_eq_true, decide_eq_true_eq]
    exact fun c hc => Nat.lt_trans (h c (by simpa using hc)) (by decide)
  | .list xs, h => by simp only [PyData.leavesShort]; exact fines_short xs (by simpa [fine] using h)
  | .tuple xs, h => by simp only [PyData.leavesShort]; exact fines_short xs (by simpa [fine] using h)
  | .dict _, h => by simp [fine] at h
theorem fines_short : ∀ (ds : List D), fines ds = true → PyData.leavesShortAll 13 ds = true
  | [], _ => by simp [PyData.leavesShortAll]
  | d :: ds, h => by
    simp only [fines, Bool.and_eq_true] at h
    simp only [PyData.leavesShortAll, Bool.and_eq_true]
    exact ⟨fine_short d h.1, fines_short ds h.2⟩
end
theorem shaped_of {d : D} (h : fine d = true) (hd : d.depth ≤ 64) : SeqAt.shaped d = true := by
  simp only [SeqAt.shaped, Bool.and_eq_true, decide_eq_true_eq]
  exact ⟨fine_lay d h, hd⟩
theorem reprOk_of {d : D} (h : fine d = true) (hd : d.depth ≤ 64) (hb : d.bulk ≤ 2 ^ 20) : reprOk d = true := by
  simp only [reprOk, Bool.and_eq_true, decide_eq_true_eq]
  exact ⟨⟨shaped_of h hd, fine_show d h⟩, PyData.shown_fits_bulk (by decide) (by decide) (fine_short d h) hb⟩
theorem depths_le {n : Nat} : ∀ {xs : List D}, (∀ x ∈ xs, x.depth ≤ n) → PyData.depthAll xs ≤ n
  | [], _ => by simp [PyData.depthAll]
  | x :: xs, h => by
    simp only [PyData.depthAll]
    exact Nat.max_le.mpr ⟨h x (by simp), depths_le fun y hy => h y (by simp [hy])⟩
theorem bulks_le {n : Nat} : ∀ {xs : List D}, (∀ x ∈ xs, x.bulk ≤ n) → PyData.bulkAll xs ≤ xs.length * (n + 1)
  | [], _ => by simp [PyData.bulkAll]
  | x :: xs, h => by
    have h1 := h x (by simp)
    have h2 := bulks_le (n := n) (xs := xs) fun y hy => h y (by simp [hy])
    simp only [PyData.bulkAll, List.length_cons, Nat.succ_mul]
    omega
theorem eqv_self {d : D} (h : fine d = true) : PyData.eqv d d = true := SeqAt.eqv_refl d (fine_lay d h)
@[simp] theorem shaped_int (i : Int) : SeqAt.shaped (.int i) = true := by simp [SeqAt.shaped, PyData.canLay0, PyData.depth]
@[simp] theorem shaped_bool (b : Bool) : SeqAt.shaped (.bool b) = true := by simp [SeqAt.shaped, PyData.canLay0, PyData.depth]
@[simp] theorem shaped_none : SeqAt.shaped .none = true := by simp [SeqAt.shaped, PyData.canLay0, PyData.depth]
theorem lay_ints : ∀ is : List Int, PyData.canLayAll0 (is.map .int) = true ∧ PyData.depthAll (is.map .int) = 0
  | [] => by simp [PyData.canLayAll0, PyData.depthAll]
  | i :: is => by simp [PyData.canLayAll0, PyData.depthAll, PyData.canLay0, PyData.depth, lay_ints is]
@[simp] theorem shaped_ints (is : List Int) : SeqAt.shaped (.list (is.map .int)) = true := by simp [SeqAt.shaped, PyData.canLay0, PyData.depth, lay_ints is]
@[simp] theorem shaped_intsT (is : List Int) : SeqAt.shaped (.tuple (is.map .int)) = true := by simp [SeqAt.shaped, PyData.canLay0, PyData.depth, lay_ints is]
theorem vals_ints_oi (is : List Int) : vals (is.map oi) = some (is.map .int) := by
  induction is with
  | nil => rfl
  | cons i is ih => simp [ih]
@[simp] theorem vals_comp {α : Type} (g : α → D) (xs : List α) : vals (xs.map (O.val ∘ g)) = some (xs.map g) := by rw [← List.map_map]; exact vals_map _
@[simp] theorem vals_fun {α : Type} (g : α → D) (xs : List α) : vals (xs.map fun x => O.val (g x)) = some (xs.map g) := vals_comp g xs
@[simp] theorem toDs_comp {α : Type} (g : α → D) (xs : List α) : toDs (xs.map (O.val ∘ g)) = some (xs.map g) := by rw [← List.map_map]; exact toDs_vals _
@[simp] theorem toDs_fun {α : Type} (g : α → D) (xs : List α) : toDs (xs.map fun x => O.val (g x)) = some (xs.map g) := toDs_comp g xs
@[simp] theorem toDs_append : ∀ (xs ys : List O), toDs (xs ++ ys) = match toDs xs with
    | some a => (match toDs ys with
      | some b => some (a ++ b)
      | none => none)
    | none => none
  | [], ys => by simp; cases toDs ys <;> rfl
  | x :: xs, ys => by
    simp only [List.cons_append, toDs, toDs_append xs ys]
    cases O.toD x with
    | none => rfl
    | some d =>
      cases toDs xs with
      | none => rfl
      | some a => cases toDs ys <;> rfl
/-! ### loops -/
theorem forL_ind {f : MG} {body : MS} (I : Nat → Env → Prop) (h : ∀ i d env, I (i + 1) env → ∃ e1 e2, f d env = some e1 ∧ body e1 = some (.nx e2) ∧ I i e2) : ∀ (ds : List D) (env : Env), I ds.length env → ∃ e, I 0 e ∧ forL f body ds env = some (.nx e)
  | [], env, h0 => ⟨env, h0, rfl⟩
  | d :: ds, env, h0 => by
    obtain ⟨e1, e2, a, b, c⟩ := h ds.length d env (by simpa using h0)
    obtain ⟨e, p, q⟩ := forL_ind I h ds e2 c
    exact ⟨e, p, by simp [forL, a, b, q]⟩
/-- from the left, by what is done already -/
theorem forL_pre {f : MG} {body : MS} (I : List D → Env → Prop) (all : List D) (h : ∀ pre d post env, all = pre ++ d :: post → I pre env → ∃ e1 e2, f d env = some e1 ∧ body e1 = some (.nx e2) ∧ I (pre ++ [d]) e2) :
    ∀ (ds pre : List D) (env : Env), all = pre ++ ds → I pre env → ∃ e, I all e ∧ forL f body ds env = some (.nx e)
  | [], pre, env, hp, h0 => ⟨env, by rw [hp, List.append_nil]; exact h0, rfl⟩
  | d :: ds, pre, env, hp, h0 => by
    obtain ⟨e1, e2, a, b, c⟩ := h pre d ds env hp h0
    obtain ⟨e, p, q⟩ := forL_pre I all h ds (pre ++ [d]) e2 (by rw [hp, List.append_assoc]; rfl) c
    exact ⟨e, p, by simp [forL, a, b, q]⟩
theorem lcL_map {f : MG} {tt : MT} {te : ME} {tk : Opd → Env → Option (O × Env)} {vs : List Nat} {env : Env} (g : D → D) : ∀ (ds : List D) (acc : List O),
    (∀ d ∈ ds, ∃ e1 p e2 e3, f d env = some e1 ∧ tt e1 = some (true, e1) ∧ te e1 = some (p, e2) ∧ tk p e2 = some (.val (g d), e3) ∧ wipeE e3 vs = env) → acc.length + ds.length ≤ sizeLine →
    lcL f tt te tk vs ds acc env = some (acc ++ (ds.map g).map .val, env)
  | [], acc, _, _ => by simp [lcL]
  | d :: ds, acc, h, hz => by
    obtain ⟨e1, p, e2, e3, a, b, c, q, r⟩ := h d (by simp)
    have ih := lcL_map (vs := vs) g ds (acc ++ [.val (g d)]) (fun x hx => h x (by simp [hx])) (by simp at hz ⊢; omega)
    have hz' : acc.length < 16777216 := by rw [sizeLine_eq] at hz; simp at hz; omega
    simp [lcL, a, b, c, q, r, ih, hz']
theorem lcL_all {f : MG} {tt : MT} {te : ME} {tk : Opd → Env → Option (O × Env)} {vs : List Nat} (I : Env → Prop) (Qd : D → Prop) : ∀ (ds : List D) (acc : List O) (env : Env),
    (∀ d ∈ ds, ∀ env, I env → ∃ e1 p e2 q e3, f d env = some e1 ∧ tt e1 = some (true, e1) ∧ te e1 = some (p, e2) ∧ tk p e2 = some (.val q, e3) ∧ Qd q ∧ I (wipeE e3 vs)) → acc.length + ds.length ≤ sizeLine → I env →
    ∃ (qs : List D) (env' : Env), qs.length = ds.length ∧ (∀ q ∈ qs, Qd q) ∧ I env' ∧ lcL f tt te tk vs ds acc env = some (acc ++ qs.map .val, env')
  | [], acc, env, _, _, hI => ⟨[], env, rfl, by simp, hI, by simp [lcL]⟩
  | d :: ds, acc, env, h, hz, hI => by
    obtain ⟨e1, p, e2, q, e3, a, b, c, z, hq, hI'⟩ := h d (by simp) env hI
    obtain ⟨qs, env', l1, l2, l3, l4⟩ := lcL_all (vs := vs) I Qd ds (acc ++ [.val q]) _ (fun x hx => h x (by simp [hx])) (by simp at hz ⊢; omega) hI'
    have hz' : acc.length < 16777216 := by rw [sizeLine_eq] at hz; simp at hz; omega
    exact ⟨q :: qs, env', by simp [l1], by simp [hq]; exact l2, l3, by simp [lcL, a, b, c, z, l4, hz']⟩
theorem seq_nx {a b : MS} {env e : Env} {c : Option Ctl} (h : a env = some (.nx e)) (h2 : b e = c) : mSeq a b env = c := by simp [h, h2]
@[simp] theorem rangeD_len (lo hi : Int) : (rangeD lo hi).length = (hi - lo).toNat := by simp [rangeD]
theorem rangeD_mem {lo hi : Int} {d : D} (h : d ∈ rangeD lo hi) : ∃ i, d = .int i ∧ lo ≤ i ∧ i < hi := by
  simp [rangeD] at h
  obtain ⟨a, ha, rfl⟩ := h
  exact ⟨_, rfl, by omega, by omega⟩
end Pv

namespace Pv
open PySem PySem.Spec PyProof.Rows L2

/-! ### for x in reversed(a list or a tuple) -/
section
variable {K : PySem.W.Frag} {G H : Hp} {a : Addr} {vs : List V} {ds : List D} {Z : List Addr}
theorem rev_at {α : Type} {xs : List α} {i : Nat} {x : α} (h : xs.reverse[i]? = some x) : xs[xs.length - 1 - i]? = some x := by
  have hl : i < xs.length := by
    have := (List.getElem?_eq_some_iff.mp h).1
    rwa [List.length_reverse] at this
  rwa [List.getElem?_reverse hl] at h
theorem src_revL (dp : DqAll K G vs ds) (hz : ∀ b ∈ Z, ∃ u, H b = some u) (st : ∀ G' H', Sub G G' → Sub G' H' → (∀ b ∈ Z, H' b = H b) → SqL K H' a vs) : Src K (Itv K a vs.length) ds.reverse Z G H where
  go := fun i G' H' g g' k d hd => by
    have hl : i < ds.length := by
      have := (List.getElem?_eq_some_iff.mp hd).1
      rwa [List.length_reverse] at this
    have hd' := rev_at hd
    rw [← dps_len dp] at hd' hl
    obtain ⟨v, hv, r⟩ := dps_get dp hd'
    have q := st G' H' g g' k
    refine ⟨⟨hl, vs, v, q, hv⟩, fun x H'' ⟨e, y⟩ => ⟨G', (by rw [e]; exact Ext.refl g'), ?_⟩⟩
    have e2 := y vs q
    rw [hv] at e2; cases e2
    exact dp_mono g _ _ r
  stop := fun i G' H' g g' k hl => by rw [List.length_reverse] at hl; exact (by rw [dps_len dp]; exact hl : vs.length ≤ i)
  has := hz
theorem src_revT (dp : DqAll K G vs ds) (hz : ∀ b ∈ Z, ∃ u, H b = some u) (st : ∀ G' H', Sub G G' → Sub G' H' → (∀ b ∈ Z, H' b = H b) → SqT K H' a vs) : Src K (RT.ItvT K a vs.length) ds.reverse Z G H where
  go := fun i G' H' g g' k d hd => by
    have hl : i < ds.length := by
      have := (List.getElem?_eq_some_iff.mp hd).1
      rwa [List.length_reverse] at this
    have hd' := rev_at hd
    rw [← dps_len dp] at hd' hl
    obtain ⟨v, hv, r⟩ := dps_get dp hd'
    have q := st G' H' g g' k
    refine ⟨⟨hl, vs, v, q, hv⟩, fun x H'' ⟨e, y⟩ => ⟨G', (by rw [e]; exact Ext.refl g'), ?_⟩⟩
    have e2 := y vs q
    rw [hv] at e2; cases e2
    exact dp_mono g _ _ r
  stop := fun i G' H' g g' k hl => by rw [List.length_reverse] at hl; exact (by rw [dps_len dp]; exact hl : vs.length ≤ i)
  has := hz
end
@[simp] def mRev (m : ME) : MI := fun env => (m env).bind fun r => (still r.1 r.2).bind fun o => (itemsO o).bind fun ds => some (ds.reverse, r.2)
/-- pairs (k, item) -/
def enumD : Nat → List D → List D
  | _, [] => []
  | k, d :: ds => .tuple [.int k, d] :: enumD (k + 1) ds
theorem enumD_len : ∀ (ds : List D) (k : Nat), (enumD k ds).length = ds.length
  | [], _ => rfl
  | d :: ds, k => by simp [enumD, enumD_len ds]
theorem enumD_get : ∀ (ds : List D) (k i : Nat), (enumD k ds)[i]? = (ds[i]?).map fun d => .tuple [.int ((k + i : Nat) : Int), d]
  | [], _, _ => by simp [enumD]
  | d :: ds, k, 0 => by simp [enumD]
  | d :: ds, k, i + 1 => by
    simp only [enumD, List.getElem?_cons_succ, enumD_get ds]
    rw [show k + 1 + i = k + (i + 1) by omega]
@[simp] def mEnum (m : ME) : MI := fun env => (m env).bind fun r => (still r.1 r.2).bind fun o => (itemsL o).bind fun ds => some (enumD 0 ds, r.2)
theorem itemsL_O {o : O} {ds : List D} (h : itemsL o = some ds) : itemsO o = some ds ∧ ∀ es, o ≠ .val (.tuple es) := by
  unfold itemsL at h
  split at h
  · cases h; exact ⟨rfl, fun es e => by cases e⟩
  · exact ⟨h, fun es e => by cases e⟩
  · cases h
theorem items_list {K : PySem.W.Frag} {G H : Hp} {v : V} {o : O} {C : List Addr} {ds : List D} (r : Ro K G H v o C) (h : itemsL o = some ds) : ∃ (a : Addr) (vs : List V) (Z : List Addr), v = .ref a ∧ (∀ b ∈ Z, b ∈ C) ∧ (∀ b ∈ Z, ∃ u, H b = some u) ∧ DqAll K G vs ds ∧
    ∀ G' H', Sub G G' → Sub G' H' → (∀ b ∈ Z, H' b = H b) → SqL K H' a vs := by
  cases r with
  | val r =>
    cases r with
    | lst h1 h2 => cases h; exact ⟨_, _, [], rfl, fun _ z => (nomatch z), fun _ z => (nomatch z), h2, fun G' H' g g' _ => (sqk_mono (g.trans g') h1).l⟩
    | _ => cases h
  | @own a vs os A h1 h2 =>
    simp only [itemsL] at h
    obtain rfl := vals_eq h
    obtain ⟨dp, rfl⟩ := ros_vals h2
    exact ⟨a, vs, [a], rfl, fun b hb => hb, fun b hb => (by rcases List.mem_singleton.mp hb with rfl; exact ⟨_, h1⟩), dp, fun G' H' g g' k => SqL.of (by rw [k a (by simp)]; exact h1)⟩
  | odic => cases h
theorem src_enum {K : PySem.W.Frag} {G H : Hp} {a : Addr} {vs : List V} {ds : List D} {Z : List Addr} (dp : DqAll K G vs ds) (hz : ∀ b ∈ Z, ∃ u, H b = some u) (st : ∀ G' H', Sub G G' → Sub G' H' → (∀ b ∈ Z, H' b = H b) → SqL K H' a vs) : Src K (Ite K a) (enumD 0 ds) Z G H where
  go := fun i G' H' g g' k d hd => by
    rw [enumD_get, Option.map_eq_some_iff] at hd
    obtain ⟨d', hd, rfl⟩ := hd
    obtain ⟨v, hv, r⟩ := dps_get dp hd
    have q := st G' H' g g' k
    refine ⟨⟨vs, v, q, hv⟩, fun x H'' ⟨T, y, e1, e2, e3, e4⟩ => ?_⟩
    have e5 := e4 vs q
    rw [hv] at e5; cases e5
    subst e1 e3
    have x : Ext G' H' (upd G' T (.tup [.int (i : Nat), v])) (upd H' T (.tup [.int (i : Nat), v])) [] := Ext.newF g' e2
    refine ⟨_, x, .tup (SqT.of upd_same) (.cons ?_ (.cons (dp_mono (g.trans x.ge) _ _ r) .nil))⟩
    rw [Nat.zero_add]
    exact .int _
  stop := fun i G' H' g g' k hl => ⟨vs, st G' H' g g' k, by rw [dps_len dp]; rw [enumD_len] at hl; exact hl⟩
  has := hz
def strD (x : Str) : List D := x.cps.toList.map fun c => .str ⟨#[c]⟩
theorem src_str {K : PySem.W.Frag} {G H : Hp} {x : Str} : Src K (Its x) (strD x) [] G H where
  go := fun i G' H' g g' k d hd => by
    unfold strD at hd
    rw [List.getElem?_map, Option.map_eq_some_iff] at hd
    obtain ⟨c, hc, rfl⟩ := hd
    have hl := (List.getElem?_eq_some_iff.mp hc).1
    refine ⟨(show i < x.cps.size by simpa using hl), fun v H'' ⟨e, c', h1, h2⟩ => ⟨G', (by rw [e]; exact Ext.refl g'), ?_⟩⟩
    rw [← Array.getElem?_toList, hc] at h1
    cases h1
    rw [h2]
    exact .str _
  stop := fun i G' H' g g' k hl => by
    unfold strD at hl
    rw [List.length_map, Array.length_toList] at hl
    exact hl
  has := fun _ h => nomatch h
@[simp] def mStrI (m : ME) : MI := fun env => (m env).bind fun r => (look r.1 r.2).bind fun o => match o with
  | .val (.str x) => some (strD x, r.2)
  | _ => none
/-- pairs -/
def zipD : List D → List D → List D
  | d :: ds, e :: es => .tuple [d, e] :: zipD ds es
  | _, _ => []
theorem zipD_get : ∀ (ds es : List D) (i : Nat) (x : D), (zipD ds es)[i]? = some x → ∃ d e, ds[i]? = some d ∧ es[i]? = some e ∧ x = .tuple [d, e]
  | [], es, i, x, h => by simp [zipD] at h
  | d :: ds, [], i, x, h => by simp [zipD] at h
  | d :: ds, e :: es, 0, x, h => by simp [zipD] at h; exact ⟨d, e, rfl, rfl, h.symm⟩
  | d :: ds, e :: es, i + 1, x, h => by simp only [zipD, List.getElem?_cons_succ] at h; exact zipD_get ds es i x h
theorem zipD_len : ∀ (ds es : List D), (zipD ds es).length = min ds.length es.length
  | [], es => by simp [zipD]
  | d :: ds, [] => by simp [zipD]
  | d :: ds, e :: es => by simp [zipD, zipD_len ds es]
section
variable {X : Cx} {tg iter e e2 : Expr} {p pos tpos : Pos} {m : ME} {elts : List Expr} {kk : Nat}
theorem vi_rev (hg : Gl X "reversed") (hm : X.mg "reversed" = none) (he : VE X e m) (hs : starEach [e] X.env = (false, eval e X.env) :: starEach [] X.env := by rfl) : VI X tg (.Call (.Name "reversed" p) [e] [] pos) (mRev m) := by
  refine PI.imp (RT.pi_revA hg hm he hs) fun σ H R q => ?_
  obtain ⟨P, G, env, fp, ds, env', k, hm, c⟩ := q
  simp only [mRev, Option.bind_eq_some_iff] at hm
  obtain ⟨⟨p, e1⟩, z, o, z2, ds', z3, hm⟩ := hm
  cases hm
  refine ⟨P, G, env, fp, p, e1, k, z, fun v G1 H1 fp1 B s k1 t => ?_⟩
  obtain ⟨C, r, hC⟩ := still_at k1 t z2
  obtain ⟨a, vs, Z, rfl, hZ, hz, dp, st | st⟩ := items_at r z3
  · exact ⟨a, vs, rfl, .inl ⟨st G1 H1 (Sub.refl _) k1.sub fun _ _ => rfl, c _ G1 H1 fp1 Z (s.less fun _ h => .inl h) k1 (src_revL dp hz st) fun b hb => hC b (hZ b hb)⟩⟩
  · exact ⟨a, vs, rfl, .inr ⟨st G1 H1 (Sub.refl _) k1.sub fun _ _ => rfl, c _ G1 H1 fp1 Z (s.less fun _ h => .inl h) k1 (src_revT dp hz st) fun b hb => hC b (hZ b hb)⟩⟩
theorem one_arg {K : PySem.W.Frag} {m : ME} {σ : L2.St} {H : Hp} {Q : VK} (q : tN K m σ H Q) : tNs K (mCons m mNil) σ H fun vs H1 => ∃ v, vs = [v] ∧ Q v H1 := by
  obtain ⟨P, G, env, fp, p, env', k, hm, c⟩ := q
  refine ⟨P, G, env, fp, [p], env', k, by simp [hm], fun vs G' H' fp' B s k' t => ?_⟩
  have l := t.rep.length
  cases vs with
  | nil => cases l
  | cons v vs =>
    have : vs = [] := by simpa using l
    subst this
    exact ⟨v, rfl, c v G' H' fp' B s k' t⟩
theorem vi_enum (hg : Gl X "enumerate") (hm : X.mg "enumerate" = none) (he : VE X e m) (hs : starEach [e] X.env = [(false, eval e X.env)] := by rfl) : VI X (.Tuple elts kk tpos) (.Call (.Name "enumerate" p) [e] [] pos) (mEnum m) := by
  refine PI.imp (pi_enum hg hm (va_cons he va_nil hs) hs) fun σ H R q => ?_
  obtain ⟨P, G, env, fp, ds, env', k, hm, c⟩ := q
  simp only [mEnum, Option.bind_eq_some_iff] at hm
  obtain ⟨⟨p, e1⟩, z, o, z2, ds', z3, hm⟩ := hm
  cases hm
  have q1 : tN X.K m σ H fun v H1 => ∃ a xs, v = .ref a ∧ SqL X.K H1 a xs ∧ R (Ite X.K a) H1 := by
    refine ⟨P, G, env, fp, p, e1, k, z, fun v G1 H1 fp1 B s k1 t => ?_⟩
    obtain ⟨C, r, hC⟩ := still_at k1 t z2
    obtain ⟨a, vs, Z, rfl, hZ, hz, dp, st⟩ := items_list r z3
    exact ⟨a, vs, rfl, st G1 H1 (Sub.refl _) k1.sub fun _ _ => rfl, c _ G1 H1 fp1 Z (s.less fun _ h => .inl h) k1 (src_enum dp hz st) fun b hb => hC b (hZ b hb)⟩
  refine tNs_mono (one_arg q1) fun vs H' h => ?_
  obtain ⟨v, rfl, a, xs, rfl, h1, h2⟩ := h
  exact ⟨a, xs, rfl, h1, h2⟩
theorem vi_str (he : VE X iter m) : VI X tg iter (mStrI m) := by
  refine PI.imp (pi_str he) fun σ H R q => ?_
  obtain ⟨P, G, env, fp, ds, env', k, hm, c⟩ := q
  simp only [mStrI, Option.bind_eq_some_iff] at hm
  obtain ⟨⟨p, e1⟩, z, o, z2, hm⟩ := hm
  split at hm
  · cases hm
    exact ⟨P, G, env, fp, p, e1, k, z, fun v G1 H1 fp1 B s k1 t => ⟨_, view_str (one_view k1 t z2), c _ G1 H1 fp1 [] (s.less fun _ h => .inl h) k1 src_str fun _ h => nomatch h⟩⟩
  · cases hm

/-! ### x.bit_length(), list(d), int(x), all, any -/
@[simp] def fBits : FO := f1I fun i => .int (Builtin.Int.intBits i : Nat)
theorem ve_bits {apos : Pos} (ho : VE X e m) (hbase : attributeBase e "bit_length" X.env (eval e X.env) = eval e X.env := by rfl) (hline : (apos.endLine == pos.line) = true := by rfl) : VE X (.Call (.Attribute e "bit_length" apos) [] [] pos) (mUn fBits m) :=
  PE.imp (pe_bits ho hbase hline) fun σ H Q q => by
    have hf : PureC X.K fBits (l1 fun x H Q => ∃ i, x = .int i ∧ Q (.int (Builtin.Int.intBits i : Nat)) H) := by
      intro G H vs os o Q s w h k
      unfold fBits f1I at h
      split at h
      · cases h
        obtain ⟨v, rfl, w1⟩ := one_views w rfl
        exact ⟨v, rfl, _, view_int w1, fin_val s k rfl (.int _)⟩
      · cases h
    exact seq_one hf q
end
def keyD : Key → D
  | .inl i => .int i
  | .inr s => .str s
theorem keyD_dq {K : PySem.W.Frag} {G : Hp} : ∀ k : Key, Dq K G (kV k) (keyD k)
  | .inl i => .int i
  | .inr s => .str s
theorem rok_keys {K : PySem.W.Frag} {G H : Hp} : ∀ {os : List (Key × O)} {vs : List (Key × V)} {A : List Addr}, Rok K G H vs os A → DqAll K G (vs.map fun kv => kV kv.1) (os.map fun kv => keyD kv.1)
  | [], _, _, h => by cases h; exact .nil
  | o :: os, _, _, h => by cases h with | cons h1 h2 => exact .cons (keyD_dq _) (rok_keys h2)
@[simp] def fListA : FO := fun os => match os with
  | [.odic kvs] => some (.own ((kvs.map fun kv => keyD kv.1).map .val))
  | os => fList os
def rListA (K : PySem.W.Frag) : List V → Hp → VK → Prop := fun xs H Q => rLstOf K xs H Q ∨ ∃ (a : Addr) (kvs : List (Key × V)), xs = [.ref a] ∧ Rd H a (.dK kvs) ∧ ∀ p, H p = none → Q (.ref p) (upd H p (.lst (kvs.map fun kv => kV kv.1)))
theorem call_listA {X : Cx} (hc : X.calm = true) : CallR X (.type "list") (rListA X.K) := call_list_of.or (call_listD hc)
theorem fListA_ok {K : PySem.W.Frag} : PureC K fListA (rListA K) := by
  intro G H vs os o Q s w h k
  unfold fListA at h
  split at h
  · cases h
    obtain ⟨v, rfl, w1⟩ := one_views w rfl
    obtain ⟨a, vs', A, rfl, h1, h2⟩ := view_odic w1
    exact .inr ⟨a, vs', rfl, .inl h1, fin_lst s k rfl (rok_keys h2)⟩
  · exact .inl (fList_ok G H vs os o Q s w h k)
@[simp] def fInt : FO := fun os => match os with
  | [.val (.int i)] => some (.val (.int i))
  | [.val (.bool b)] => some (.val (.int (if b then 1 else 0)))
  | _ => none
def rInt1 : List V → Hp → VK → Prop := fun xs H Q => (∃ i, xs = [.int i] ∧ Q (.int i) H) ∨ ∃ k, xs = [.bl k] ∧ Q (.int (if k then 1 else 0)) H
theorem fInt_ok {K : PySem.W.Frag} : PureC K fInt rInt1 := by
  intro G H vs os o Q s w h k
  unfold fInt at h
  split at h
  · cases h
    obtain ⟨v, rfl, w1⟩ := one_views w rfl
    exact .inl ⟨_, by rw [view_int w1], fin_val s k rfl (.int _)⟩
  · cases h
    obtain ⟨v, rfl, w1⟩ := one_views w rfl
    exact .inr ⟨_, by rw [view_bool w1], fin_val s k rfl (.int _)⟩
  · cases h
end Pv

namespace Pv
open PySem PySem.Spec PyProof.Rows L2

/-! ### any, all -/
def asBools : List D → Option (List Bool)
  | [] => some []
  | .bool b :: r => (asBools r).bind fun bs => some (b :: bs)
  | _ => none
theorem asBools_eq : ∀ {ds : List D} {bs : List Bool}, asBools ds = some bs → ds = bs.map .bool
  | [], bs, h => by cases h; rfl
  | .bool b :: r, bs, h => by
    simp only [asBools, Option.bind_eq_some_iff] at h
    obtain ⟨js, h1, h2⟩ := h
    cases h2
    rw [asBools_eq h1]; rfl
  | .none :: _, _, h => by cases h
  | .int _ :: _, _, h => by cases h
  | .str _ :: _, _, h => by cases h
  | .list _ :: _, _, h => by cases h
  | .tuple _ :: _, _, h => by cases h
  | .dict _ :: _, _, h => by cases h
@[simp] theorem asBools_map : ∀ bs : List Bool, asBools (bs.map .bool) = some bs
  | [] => rfl
  | b :: bs => by simp [asBools, asBools_map bs]
theorem dqs_bools {K : PySem.W.Frag} {G : Hp} : ∀ {bs : List Bool} {vs : List V}, DqAll K G vs (bs.map .bool) → vs = bs.map V.bl
  | [], vs, h => by cases h; rfl
  | b :: bs, vs, h => by cases h with | cons h1 h2 => cases h1; rw [dqs_bools h2]; rfl
@[simp] def fAny : FO := fun os => match os with
  | [o] => (itemsL o).bind fun ds => (asBools ds).bind fun bs => some (.val (.bool (bs.any id)))
  | _ => none
@[simp] def fAll : FO := fun os => match os with
  | [o] => (itemsL o).bind fun ds => (asBools ds).bind fun bs => some (.val (.bool (bs.all id)))
  | _ => none
theorem view_bools {K : PySem.W.Frag} {G H : Hp} {v : V} {o : O} {ds : List D} {bs : List Bool} (w : View K G H v o) (s : Sub G H) (h : itemsL o = some ds) (h2 : asBools ds = some bs) : ∃ a, v = .ref a ∧ SqL K H a (bs.map V.bl) := by
  obtain ⟨a, vs, rfl, h3, d1⟩ := view_list w s h
  obtain rfl := asBools_eq h2
  rw [dqs_bools d1] at h3
  exact ⟨a, rfl, h3.l⟩
theorem fAny_ok {K : PySem.W.Frag} : PureC K fAny (rAny K) := by
  intro G H vs os o Q s w h k
  unfold fAny at h
  split at h
  · simp only [Option.bind_eq_some_iff] at h
    obtain ⟨ds, h1, bs, h2, h4⟩ := h
    cases h4
    obtain ⟨v, rfl, w1⟩ := one_views w rfl
    obtain ⟨a, rfl, hq⟩ := view_bools w1 s h1 h2
    exact ⟨a, bs, rfl, hq, fin_val s k rfl (.bl _)⟩
  · cases h
theorem fAll_ok {K : PySem.W.Frag} : PureC K fAll (rAll K) := by
  intro G H vs os o Q s w h k
  unfold fAll at h
  split at h
  · simp only [Option.bind_eq_some_iff] at h
    obtain ⟨ds, h1, bs, h2, h4⟩ := h
    cases h4
    obtain ⟨v, rfl, w1⟩ := one_views w rfl
    obtain ⟨a, rfl, hq⟩ := view_bools w1 s h1 h2
    exact ⟨a, bs, rfl, hq, fin_val s k rfl (.bl _)⟩
  · cases h

/-! ### a < b < c -/
@[simp] def mChain (f f' : FO) (ma mb mc : ME) : ME := fun env => (ma env).bind fun r1 => (mb r1.2).bind fun r2 => (looks [r1.1, r2.1] r2.2).bind fun os => match f os with
  | some (.val (.bool k)) => if k = true then (mc r2.2).bind fun r3 => (looks [r2.1, r3.1] r3.2).bind fun os2 => (f' os2).bind fun o => some (.tmp o, r3.2) else some (.tmp (.val (.bool false)), r2.2)
  | _ => none
theorem chain_seq {K : PySem.W.Frag} {f f' : FO} {r r' : R2} {ma mb mc : ME} (hf : PureC K f (l2 r)) (hf' : PureC K f' (l2 r')) {σ : L2.St} {H : Hp} {Q : VK} (q : tN K (mChain f f' ma mb mc) σ H Q) : tChain r r' (tN K ma) (tN K mb) (tN K mc) σ H Q := by
  obtain ⟨P, G, env, fp, p, env', k, hm, c⟩ := q
  simp only [mChain, Option.bind_eq_some_iff] at hm
  obtain ⟨⟨p1, e1⟩, z1, ⟨p2, e2⟩, z2, os, z3, hm⟩ := hm
  split at hm
  case h_2 => cases hm
  case h_1 b hb =>
  refine ⟨P, G, env, fp, p1, e1, k, z1, fun x G1 H1 fp1 B1 s1 k1 t1 => ⟨P, G1, e1, fp1, p2, e2, k1, z2, fun y G2 H2 fp2 B2 s2 k2 t2 => ?_⟩⟩
  have tt := (t1.step s2).cons t2 fun _ h => h
  obtain ⟨_, _, e, h⟩ := hf G2 H2 [x, y] os _ (fun z H3 => ∃ k, z = .bl k ∧ (if k = true then tN K mc σ H3 fun w' H4 => r' y w' H4 Q else Q (.bl false) H3)) k2.sub (tt.rep.views k2 z3) hb fun v G3 H3 B3 xx rr => by
    obtain ⟨rv, _⟩ := ro_val_inv rr
    cases rv
    refine ⟨b, rfl, ?_⟩
    have s12 : Stp G H (Own env fp) G2 H2 (Own e2 fp2) := (s1.less fun _ h => .inl h).trans (s2.less fun _ h => .inl h)
    have s3 : Stp G2 H2 (Own e2 fp2) G3 H3 (Own e2 fp2) := (k2.extStp xx).less fun _ h => .inl h
    have k3 := k2.ext xx
    have t3 := t2.step s3
    cases b with
    | false =>
      simp only [Bool.false_eq_true, if_false] at hm ⊢
      cases hm
      exact c _ G3 H3 fp2 [] ((s12.trans s3).less fun _ h => h.elim id fun h => nomatch h) k3 (k3.extTmp (Ext.refl k3.sub) (.val (.bl _)))
    | true =>
      simp only [if_true, Option.bind_eq_some_iff] at hm ⊢
      obtain ⟨⟨p3, e3⟩, z4, os2, z5, o, z6, hm⟩ := hm
      cases hm
      refine ⟨P, G3, e2, fp2, p3, e3, k3, z4, fun w' G4 H4 fp4 B4 s4 k4 t4 => ?_⟩
      have tt2 := (t3.step s4).cons t4 fun _ h => h
      obtain ⟨_, _, e', h'⟩ := hf' G4 H4 [y, w'] os2 o Q k4.sub (tt2.rep.views k4 z5) z6 fun v G5 H5 B5 x5 r5 => c v G5 H5 fp4 B5 (((s12.trans s3).trans (s4.less fun _ h => .inl h)).trans (k4.extStp x5)) (k4.ext x5) (k4.extTmp x5 r5)
      cases e'
      exact h'
  cases e
  exact h
section
variable {X : Cx} {a b c : Expr} {pos : Pos} {ma mb mc : ME} {f f' : FO} {r r' : R2} {op op' : CmpOp}
theorem ve_chain (ho : OpR X (compareOp op) r) (ho' : OpR X (compareOp op') r') (hf : PureC X.K f (l2 r)) (hf' : PureC X.K f' (l2 r')) (ha : VE X a ma) (hb : VE X b mb) (hc : VE X c mc) (hm : lastMarks [op, op'] [b, c] = false := by with_unfolding_all rfl) :
    VE X (.Compare a [op, op'] [b, c] pos) (mChain f f' ma mb mc) := PE.imp (pe_chain ho ho' ha hb hc hm) fun _ _ _ q => chain_seq hf hf' q
theorem vt_chain (ho : OpR X (compareOp op) r) (ho' : OpR X (compareOp op') r') (hf : PureC X.K f (l2 r)) (hf' : PureC X.K f' (l2 r')) (ha : VE X a ma) (hb : VE X b mb) (hc : VE X c mc) (hm : lastMarks [op, op'] [b, c] = false := by with_unfolding_all rfl) :
    VT X (.Compare a [op, op'] [b, c] pos) (mTst (mChain f f' ma mb mc)) := PT.imp (pt_chain ho ho' ha hb hc hm) fun _ _ _ q => chain_seq hf hf' (tst_seq q)
end

/-! ### zip -/
section
variable {K : PySem.W.Frag} {G H : Hp} {a b : Addr} {vs ws : List V} {ds es : List D} {Z : List Addr}
theorem src_zipL (dp : DqAll K G vs ds) (ep : DqAll K G ws es) (hz : ∀ b ∈ Z, ∃ u, H b = some u) (st : ∀ G' H', Sub G G' → Sub G' H' → (∀ b ∈ Z, H' b = H b) → SqL K H' a vs) (st2 : ∀ G' H', Sub G G' → Sub G' H' → (∀ b ∈ Z, H' b = H b) → SqL K H' b ws) : Src K (Itz K a b) (zipD ds es) Z G H where
  go := fun i G' H' g g' k d hd => by
    obtain ⟨d1, d2, h1, h2, rfl⟩ := zipD_get _ _ _ _ hd
    obtain ⟨v, hv, r⟩ := dps_get dp h1
    obtain ⟨u, hu, r2⟩ := dps_get ep h2
    have q := st G' H' g g' k
    have q2 := st2 G' H' g g' k
    refine ⟨⟨vs, ws, v, u, q, q2, hv, hu⟩, fun x H'' ⟨T, y, y2, e1, e2, e3, e4, e5⟩ => ?_⟩
    have e6 := e4 vs q
    have e7 := e5 ws q2
    rw [hv] at e6; cases e6
    rw [hu] at e7; cases e7
    subst e1 e3
    have x : Ext G' H' (upd G' T (.tup [v, u])) (upd H' T (.tup [v, u])) [] := Ext.newF g' e2
    exact ⟨_, x, .tup (SqT.of upd_same) (.cons (dp_mono (g.trans x.ge) _ _ r) (.cons (dp_mono (g.trans x.ge) _ _ r2) .nil))⟩
  stop := fun i G' H' g g' k hl => ⟨vs, ws, st G' H' g g' k, st2 G' H' g g' k, by rw [zipD_len] at hl; rw [dps_len dp, dps_len ep]; omega⟩
  has := hz
theorem src_zipT (dp : DqAll K G vs ds) (ep : DqAll K G ws es) (hz : ∀ b ∈ Z, ∃ u, H b = some u) (st : ∀ G' H', Sub G G' → Sub G' H' → (∀ b ∈ Z, H' b = H b) → SqT K H' a vs) (st2 : ∀ G' H', Sub G G' → Sub G' H' → (∀ b ∈ Z, H' b = H b) → SqT K H' b ws) : Src K (RZ.ItzT K a b) (zipD ds es) Z G H where
  go := fun i G' H' g g' k d hd => by
    obtain ⟨d1, d2, h1, h2, rfl⟩ := zipD_get _ _ _ _ hd
    obtain ⟨v, hv, r⟩ := dps_get dp h1
    obtain ⟨u, hu, r2⟩ := dps_get ep h2
    have q := st G' H' g g' k
    have q2 := st2 G' H' g g' k
    refine ⟨⟨vs, ws, v, u, q, q2, hv, hu⟩, fun x H'' ⟨T, y, y2, e1, e2, e3, e4, e5⟩ => ?_⟩
    have e6 := e4 vs q
    have e7 := e5 ws q2
    rw [hv] at e6; cases e6
    rw [hu] at e7; cases e7
    subst e1 e3
    have x : Ext G' H' (upd G' T (.tup [v, u])) (upd H' T (.tup [v, u])) [] := Ext.newF g' e2
    exact ⟨_, x, .tup (SqT.of upd_same) (.cons (dp_mono (g.trans x.ge) _ _ r) (.cons (dp_mono (g.trans x.ge) _ _ r2) .nil))⟩
  stop := fun i G' H' g g' k hl => ⟨vs, ws, st G' H' g g' k, st2 G' H' g g' k, by rw [zipD_len] at hl; rw [dps_len dp, dps_len ep]; omega⟩
  has := hz
end
/-- two lists or two tuples -/
def twoSeq (o o2 : O) : Option (List D × List D) := match o, o2 with
  | .val (.tuple ds), .val (.tuple es) => some (ds, es)
  | o, o2 => (itemsL o).bind fun ds => (itemsL o2).bind fun es => some (ds, es)
@[simp] def mZip (m m2 : ME) : MI := fun env => (m env).bind fun r => (m2 r.2).bind fun s => (still r.1 s.2).bind fun o => (still s.1 s.2).bind fun o2 => (twoSeq o o2).bind fun q => some (zipD q.1 q.2, s.2)
theorem vi_zip {X : Cx} {e e2 : Expr} {p pos tpos : Pos} {m m2 : ME} {elts : List Expr} {kk : Nat} (hg : Gl X "zip") (hm : X.mg "zip" = none) (he : VE X e m) (he2 : VE X e2 m2)
    (hs : starEach [e, e2] X.env = (false, eval e X.env) :: starEach [e2] X.env := by rfl) (hs2 : starEach [e2] X.env = (false, eval e2 X.env) :: starEach [] X.env := by rfl) (hpl : (backTo pos (starEach [e2] X.env)).any (·.1) = false := by rfl) : VI X (.Tuple elts kk tpos) (.Call (.Name "zip" p) [e, e2] [] pos) (mZip m m2) := by
  refine PI.imp (RZ.pi_zipA hg hm (va_cons he (va_cons he2 va_nil hs2) hs) hs hpl) fun σ H R q => ?_
  obtain ⟨P, G, env, fp, ds, env', k, hm, c⟩ := q
  simp only [mZip, Option.bind_eq_some_iff] at hm
  obtain ⟨⟨p1, e1⟩, z, ⟨p2, e2⟩, z2, o, z3, o2, z4, ⟨d1, d2⟩, z5, hm⟩ := hm
  cases hm
  refine ⟨P, G, env, fp, [p1, p2], e2, k, by simp [z, z2], fun vs G1 H1 fp1 B s k1 t => ?_⟩
  have l := t.rep.length
  match vs, l with
  | [v1, v2], _ =>
    -- each operand by itself
    obtain ⟨v1t, v2t⟩ := two_tps t
    obtain ⟨C, r, hC⟩ := still_at k1 v1t.choose_spec z3
    obtain ⟨C2, r2, hC2⟩ := still_at k1 v2t.choose_spec z4
    have src : ∀ {J ds Z}, Src X.K J ds Z G1 H1 → (∀ b ∈ Z, b ∈ C ∨ b ∈ C2) → (∀ J' H', Src X.K J' ds Z G1 H' → True) → True := fun _ _ _ => trivial
    unfold twoSeq at z5
    split at z5
    · cases z5
      cases r with
      | val r =>
        cases r2 with
        | val r2 =>
          cases r with
          | tup a1 a2 =>
            cases r2 with
            | tup b1 b2 =>
              exact ⟨_, _, _, _, rfl, .inr ⟨sqt_mono k1.sub a1, sqt_mono k1.sub b1, c _ G1 H1 fp1 [] (s.less fun _ h => .inl h) k1 (src_zipT a2 b2 (fun _ h => nomatch h) (fun G' H' g g' _ => sqt_mono (g.trans g') a1) fun G' H' g g' _ => sqt_mono (g.trans g') b1) fun _ h => nomatch h⟩⟩
    · simp only [Option.bind_eq_some_iff] at z5
      obtain ⟨ds, y1, es, y2, z5⟩ := z5
      cases z5
      obtain ⟨a, xs, Z, rfl, hZ, hz, dp, st⟩ := items_list r y1
      obtain ⟨a', ys, Z', rfl, hZ', hz', dp', st'⟩ := items_list r2 y2
      refine ⟨a, a', xs, ys, rfl, .inl ⟨st G1 H1 (Sub.refl _) k1.sub fun _ _ => rfl, st' G1 H1 (Sub.refl _) k1.sub fun _ _ => rfl, c _ G1 H1 fp1 (Z ++ Z') (s.less fun _ h => .inl h) k1 (src_zipL dp dp' (fun b hb => (List.mem_append.mp hb).elim (hz b) (hz' b)) (fun G' H' g g' k => st G' H' g g' fun b hb => k b (List.mem_append_left _ hb)) fun G' H' g g' k => st' G' H' g g' fun b hb => k b (List.mem_append_right _ hb)) fun b hb => ?_⟩⟩
      rcases List.mem_append.mp hb with h | h
      · exact hC b (hZ b h)
      · exact hC2 b (hZ' b h)
where
  two_tps {K : PySem.W.Frag} {P : Pt} {G H : Hp} {σ : L2.St} {A : AS} {v1 v2 : V} {p1 p2 : Opd} {B : List Addr} (t : Tps K P G H σ A [v1, v2] [p1, p2] B) : (∃ B1, Tps K P G H σ A [v1] [p1] B1) ∧ ∃ B2, Tps K P G H σ A [v2] [p2] B2 := by
    have hr := t.rep
    cases p1 with
    | slot i =>
      obtain ⟨h1, h2⟩ := t.uncons'
      exact ⟨⟨[], .slot h1 .nil, List.nodup_nil, fun _ h => nomatch h⟩, _, h2⟩
    | tmp o =>
      obtain ⟨B1, C, e, r, t2⟩ := t.uncons
      subst e
      have n := List.nodup_append.mp t.nd
      refine ⟨⟨B1, ?_, n.1, fun a ha => t.off a (List.mem_append_left _ ha)⟩, _, t2⟩
      have q := Reps.tmp (σ := σ) r .nil
      rw [List.append_nil] at q
      exact q
end Pv

namespace Pv
open PySem PySem.Spec PyProof.Rows L2

/-! ### {k: v for x in xs} -/
def dcL (f : MG) (tt : MT) (tk tv : ME) (vs : List Nat) : List D → List (Key × O) → Env → Option (List (Key × O) × Env)
  | [], acc, env => some (acc, env)
  | d :: ds, acc, env => (f d env).bind fun e1 => (tt e1).bind fun r => if r.1 = true then (tk r.2).bind fun s => (tv s.2).bind fun q => (look s.1 q.2).bind fun ko => (keyO ko).bind fun k => (takeF q.1 q.2).bind fun w =>
        if acc.length < sizeLine then dcL f tt tk tv vs ds (putO acc k w.1) (wipeE w.2 vs) else none
      else dcL f tt tk tv vs ds acc (wipeE r.2 vs)
def mDcomp (src : MI) (f : MG) (tt : MT) (tk tv : ME) (vs : List Nat) : ME := fun env => (src env).bind fun r => if vs.all (fun v => isClean (r.2[v]?)) = true then
    (dcL f tt tk tv vs r.1 [] (wipeE r.2 vs)).bind fun s => some (.tmp (.odic s.1), restE r.2 s.2 vs) else none
theorem takeF_val {p : Opd} {e e' : Env} {o : O} (h : takeF p e = some (o, e')) : ∃ d, o = .val d := by
  simp only [takeF, Option.bind_eq_some_iff] at h
  obtain ⟨⟨q, e1⟩, h1, d, hd, h2⟩ := h
  cases h2
  exact ⟨d, rfl⟩
theorem dc_seq {K : PySem.W.Frag} {src : MI} {f : MG} {tt : MT} {tk tv : ME} {vs : List Nat} {σ : L2.St} {H : Hp} {Q : VK} (q : tN K (mDcomp src f tt tk tv vs) σ H Q) :
    tDc (tI K src) (tG K (outIO vs) f) (tBt K tt) (tN K tk) (tN K tv) vs σ H Q := by
  obtain ⟨P, G, env, fp, p, env', k, hm, h⟩ := q
  simp only [mDcomp, Option.bind_eq_some_iff] at hm
  obtain ⟨⟨ds, e1⟩, z, hm⟩ := hm
  split at hm
  case isFalse => cases hm
  case isTrue cl =>
  simp only [Option.bind_eq_some_iff] at hm
  obtain ⟨⟨res, eZ⟩, zr, hm⟩ := hm
  cases hm
  refine ⟨P, G, env, fp, ds, e1, k, z, fun J G1 H1 fp1 Z s1 k1 src1 hZ D nD => ?_⟩
  have hDZ : D ∉ Z := fun hz => by obtain ⟨u, e⟩ := src1.has D hz; rw [nD] at e; cases e
  have nO := k1.newOff nD
  have k1u : Ok K P G1 (upd H1 D (.dK [])) (wipe σ vs) (wipeE e1 vs) fp1 := (k1.wipes vs).updT ⟨fun q => nO.1 (own_wipe q), nO.2⟩
  have s0 : Stp G1 H1 (Own e1 fp1) G1 (upd H1 D (.dK [])) (fun a => Own (wipeE e1 vs) fp1 a ∨ a ∈ [D]) :=
    ⟨Sub.refl _, fun a o e _ => by rw [upd_ne (ne_of_none e nD)]; exact e, fun a q => q.elim (fun q => .inl (own_wipe q)) fun q => .inr (by rw [List.mem_singleton.mp q]; exact nD), fun _ _ q => .inl q⟩
  obtain ⟨src0, hZ0⟩ := src1.step s0 hZ
  have t0 : Tps K P G1 (upd H1 D (.dK [])) σ (Own (wipeE e1 vs) fp1) [.ref D] [.tmp (.odic [])] [D] := by
    refine ⟨by have r := Reps.tmp (σ := σ) (Ro.odic (K := K) (G := G1) (upd_same (H := H1) (a := D) (o := .dK [])) .nil) .nil; exact r, by simp, fun a ha => ?_⟩
    rcases List.mem_singleton.mp ha with rfl
    exact ⟨fun q => nO.1 (own_wipe q), nO.2⟩
  refine ⟨fun i n H' => n = ds.length - i ∧ i ≤ ds.length ∧ ∃ G' env' fp' acc B, Stp G1 H1 (Own e1 fp1) G' H' (fun a => Own env' fp' a ∨ a ∈ B) ∧ Ok K P G' H' (wipe σ vs) env' fp' ∧ Tps K P G' H' σ (Own env' fp') [.ref D] [.tmp (.odic acc)] B ∧ D ∈ B ∧
      dcL f tt tk tv vs (ds.drop i) acc env' = some (res, eZ) ∧ Src K J ds Z G' H' ∧ ∀ a ∈ Z, ¬ (Own env' fp' a ∨ a ∈ B), ⟨ds.length, by simp, Nat.zero_le _, G1, wipeE e1 vs, fp1, [], [D], s0, k1u, t0, by simp, by simpa using zr, src0, hZ0⟩, ?_⟩
  rintro i n H2 ⟨rfl, hi, G2, env2, fp2, acc, B, s2, k2, t2, hD2, hf, src2, hZ2⟩
  by_cases hl : i < ds.length
  · refine .inr ?_
    have hd : ds[i]? = some ds[i] := by simp [hl]
    rw [List.drop_eq_getElem_cons hl] at hf
    simp only [dcL, Option.bind_eq_some_iff] at hf
    obtain ⟨env3, z3, ⟨b, env4⟩, z4, hf⟩ := hf
    obtain ⟨go, yl⟩ := src2.go i G2 H2 (Sub.refl _) k2.sub (fun _ _ => rfl) _ hd
    refine ⟨go, fun H' => ∃ m', m' < ds.length - i ∧ (m' = ds.length - (i + 1) ∧ i + 1 ≤ ds.length ∧ ∃ G' env' fp' acc B, Stp G1 H1 (Own e1 fp1) G' H' (fun a => Own env' fp' a ∨ a ∈ B) ∧ Ok K P G' H' (wipe σ vs) env' fp' ∧ Tps K P G' H' σ (Own env' fp') [.ref D] [.tmp (.odic acc)] B ∧ D ∈ B ∧
      dcL f tt tk tv vs (ds.drop (i + 1)) acc env' = some (res, eZ) ∧ Src K J ds Z G' H' ∧ ∀ a ∈ Z, ¬ (Own env' fp' a ∨ a ∈ B)), fun _ q => q, fun x H3 y => ?_⟩
    obtain ⟨G3, ext, dx⟩ := yl x H3 y
    have k3 := k2.ext ext
    have s3 := (k2.extStp ext).less (A2 := Own env2 fp2) fun _ h => .inl h
    refine ⟨P, G3, env2, fp2, _, env3, k3, dx, z3, fun σ4 fp4 a4 => ⟨wipe_kio a4.kio, ?_⟩⟩
    refine ⟨P, G3, env3, fp4, b, env4, a4.ok, z4, fun G5 H5 fp5 s5 k5 => ?_⟩
    have s25 : Stp G2 H2 (Own env2 fp2) G5 H5 (Own env4 fp5) := (s3.trans a4.stp).trans s5
    have hk : wipe σ4 vs = wipe σ vs := wipe_kio a4.kio
    cases b with
    | false =>
      simp only [Bool.false_eq_true, if_false] at hf ⊢
      have s26 := (s25.less (A2 := Own (wipeE env4 vs) fp5) fun _ h => own_wipe h)
      have t6 := t2.step s26
      have s6 := s26.frame (fun a => a ∈ B)
      obtain ⟨src6, hZ6⟩ := src2.step s6 hZ2
      refine ⟨_, by omega, rfl, hl, G5, wipeE env4 vs, fp5, acc, B, s2.trans s6, ?_, t6, hD2, hf, src6, hZ6⟩
      rw [← hk]; exact k5.wipes vs
    | true =>
      simp only [if_true, Option.bind_eq_some_iff] at hf ⊢
      obtain ⟨⟨p, env6⟩, z6, ⟨p2, env6'⟩, z6', ko, zk, key, zk2, ⟨o, env7⟩, z7, hf⟩ := hf
      split at hf
      case isFalse => cases hf
      case isTrue hz =>
      refine ⟨P, G5, env4, fp5, p, env6, k5, z6, fun yv G6 H6 fp6 B6 s6 k6 t6 => ⟨P, G6, env6, fp6, p2, env6', k6, z6', fun zv G8 H8 fp8 B8 s8 k8 t8 => ?_⟩⟩
      -- the key
      have wk := one_view k8 (t6.step s8) zk
      have ek := keyO_eq wk zk2
      obtain ⟨G7, fp7, B1, C, x7⟩ := takeF_ok k8 t8 z7
      obtain ⟨dv, rfl⟩ := takeF_val z7
      obtain ⟨rv, rfl⟩ := ro_val_inv x7.ro
      have s7 : Stp G8 H8 (fun a => Own env6' fp8 a ∨ a ∈ B8) G7 H8 (Own env7 fp7) := ⟨x7.ge, fun _ _ h _ => h, fun a h => .inl (.inl (x7.own a h)), fun a u h => (x7.frz a u h).imp id .inl⟩
      have s27 : Stp G2 H2 (Own env2 fp2) G7 H8 (Own env7 fp7) := ((s25.trans (s6.less fun _ h => .inl h)).trans s8).trans s7
      have t7 := t2.step s27
      have hr := t7.rep
      obtain ⟨accV, C3, hDl, ros7, rfl⟩ : ∃ accV C3, H8 D = some (.dK accV) ∧ Rok K G7 H8 accV acc C3 ∧ B = D :: C3 := by
        cases hr with
        | tmp hr hn =>
          cases hn
          cases hr with
          | odic h1 h2 => exact ⟨_, _, h1, h2, by rw [List.append_nil]⟩
      have ndB := t7.nd
      have offD := t7.off D (by simp)
      have hDC : D ∉ C3 := (List.nodup_cons.mp ndB).1
      obtain ⟨C4, r4, n4, sub4⟩ := rok_put (k := key) rv ros7 (List.nodup_cons.mp ndB).2
      have hDC4 : D ∉ C4 := fun q => hDC (sub4 D q)
      refine ⟨accV, key, ek, hDl, by rw [rok_len ros7]; exact hz, ?_⟩
      have ku : Ok K P G7 (upd H8 D (.dK (putK accV key zv))) (wipe σ vs) (wipeE env7 vs) fp7 := by
        rw [← hk]
        exact (x7.ok.wipes vs).updT ⟨fun q => offD.1 (own_wipe q), offD.2.1, offD.2.2⟩
      have s27' := s27.frame (fun a => a ∈ D :: C3)
      have s78 : Stp G7 H8 (fun a => Own env7 fp7 a ∨ a ∈ D :: C3) G7 (upd H8 D (.dK (putK accV key zv))) (fun a => Own (wipeE env7 vs) fp7 a ∨ a ∈ D :: C4) := by
        refine stp_updT (.inr (by simp)) fun a h => ?_
        rcases h with h | h
        · exact .inl (own_wipe h)
        · rcases List.mem_cons.mp h with h | h
          · exact .inr (by simp [h])
          · exact .inr (List.mem_cons_of_mem _ (sub4 a h))
      have s28 := s27'.trans s78
      obtain ⟨src8, hZ8⟩ := src2.step s28 hZ2
      have rosAll : Rok K G7 (upd H8 D (.dK (putK accV key zv))) (putK accV key zv) (putO acc key (.val dv)) C4 := rok_mono (Sub.refl _) _ _ _ (fun a ha => upd_ne fun h => hDC4 (by rw [← h]; exact ha)) r4
      refine ⟨_, by omega, rfl, hl, G7, wipeE env7 vs, fp7, putO acc key (.val dv), D :: C4, s2.trans s28, ku, ⟨?_, ?_, fun a ha => ?_⟩, by simp, hf, src8, hZ8⟩
      · have r := Reps.tmp (σ := σ) (Ro.odic (upd_same (H := H8) (a := D) (o := .dK (putK accV key zv))) rosAll) .nil
        rw [List.append_nil] at r
        exact r
      · exact List.nodup_cons.mpr ⟨hDC4, n4⟩
      · have base : a ∈ D :: C3 := by
          rcases List.mem_cons.mp ha with h | h
          · simp [h]
          · exact List.mem_cons_of_mem _ (sub4 a h)
        obtain ⟨n1, n2⟩ := t7.off a base
        exact ⟨fun q => n1 (own_wipe q), n2⟩
  · have hi : i = ds.length := by omega
    subst hi
    simp only [List.drop_length, dcL] at hf
    cases hf
    refine .inl ⟨src2.stop _ G2 H2 (Sub.refl _) k2.sub (fun _ _ => rfl) (Nat.le_refl _), ?_⟩
    obtain ⟨kr, ko⟩ := Ok.rest k1 s2.ge cl k2
    refine h (.ref D) G2 H2 _ B ?_ kr (t2.weak ko)
    exact (s1.trans s2).less fun a q => q.imp (ko a) id
section
variable {X : Cx} {kx vx tg iter : Expr} {ifs : List Expr} {scope : Scope} {own : List (Str × Nat)} {pos : Pos}
theorem ve_dc {src : MI} {f : MG} {tt : MT} {tk tv : ME} (hc : X.calm = true) (hN : X.N.Nodup) (hi : VI X tg iter src) (ok : BlkOk X.N X.env.scope scope own)
    (hg : ∀ (s : Shared) (H : Hp) (C : Addr) (cl : List (Str × Addr)) (fp : List Addr), VG (X.blk s H scope (compEnvC scope cl C X.env) fp) (outIO (own.map (·.2))) tg f)
    (ht : ∀ (s : Shared) (H : Hp) (C : Addr) (cl : List (Str × Addr)) (fp : List Addr), VTs (X.blk s H scope (compEnvC scope cl C X.env) fp) ifs tt)
    (hk : ∀ (s : Shared) (H : Hp) (C : Addr) (cl : List (Str × Addr)) (fp : List Addr), VE (X.blk s H scope (compEnvC scope cl C X.env) fp) kx tk)
    (he : ∀ (s : Shared) (H : Hp) (C : Addr) (cl : List (Str × Addr)) (fp : List Addr), VE (X.blk s H scope (compEnvC scope cl C X.env) fp) vx tv) (hs : ∀ x, foldedSetIterable iter X.env x = pure x := by intro _; rfl) :
    VE X (.DictComp kx vx [⟨tg, iter, ifs, 0⟩] scope pos) (mDcomp src f tt tk tv (own.map (·.2))) :=
  PE.imp (pe_dc hc hN hi ok hg ht hk he hs) fun _ _ _ q => dc_seq q
theorem ps_setDc {i : Nat} {y : Str} {py spos : Pos} {wi : TI} {g : TG} {tt : TT} {tk tv : TE} (hc : X.calm = true) (hN : X.N.Nodup) (hy : X.N[i]? = some y) (hyl : X.env.scope.names.lookup y = some .local)
    (hsw : swapsWith (.DictComp kx vx [⟨tg, iter, ifs, 0⟩] scope pos) (some (.Name y py)) spos.line X.env = pure true) (hi : PI X tg iter wi) (ok : BlkOk X.N X.env.scope scope own)
    (hg : ∀ (s : Shared) (H : Hp) (C : Addr) (cl : List (Str × Addr)) (fp : List Addr), PG (X.blk s H scope (compEnvC scope cl C X.env) fp) tg g)
    (ht : ∀ (s : Shared) (H : Hp) (C : Addr) (cl : List (Str × Addr)) (fp : List Addr), PTs (X.blk s H scope (compEnvC scope cl C X.env) fp) ifs tt)
    (hk : ∀ (s : Shared) (H : Hp) (C : Addr) (cl : List (Str × Addr)) (fp : List Addr), PE (X.blk s H scope (compEnvC scope cl C X.env) fp) kx tk)
    (he : ∀ (s : Shared) (H : Hp) (C : Addr) (cl : List (Str × Addr)) (fp : List Addr), PE (X.blk s H scope (compEnvC scope cl C X.env) fp) vx tv) (hs : ∀ x, foldedSetIterable iter X.env x = pure x := by intro _; rfl) :
    PS X (.Assign [.Name y py] (.DictComp kx vx [⟨tg, iter, ifs, 0⟩] scope pos) spos) (tAsg (tDc wi g tt tk tv (own.map (·.2))) (gName i)) := by
  refine ⟨fun pins s σ H W I h => ?_⟩
  rw [exec_Assign_Name_used _ _ _ _ hsw]
  refine wpAny_bind (wpAny_standAt (wpAny_bind ?_))
  show wpAny _ X.A (comprehension (.DictComp kx vx [⟨tg, iter, ifs, 0⟩] scope pos) scope X.env (firstIterPos [⟨tg, iter, ifs, 0⟩] pos) newDict false (eval iter X.env) (some (assign (.Name y py) X.env)) >>= fun _ => pure ()) _ _ s
  have h : tDc wi g tt tk tv (own.map (·.2)) σ H (fun x H1 => gName i x σ H1 W.nx) := h
  refine wpAny_bind (thn (dc_core (Qf := fun _ s' => SP X pins W .next s') hc hN I hi ok hg ht hk he hs h fun L C s' m H' I' q hn f => ?_) fun _ s' hq => wpAny_pure (wpAny_pure hq))
  show wpAny _ _ (assign (.Name y py) X.env (.ref L)) _ _ _
  refine wpAny_assign_Name (store_ok2 (v := V.ref L) I' hN hy (.inl hyl) rfl (fun s2 I2 ⟨a, sb, ha⟩ => ?_) (.inr hyl))
  obtain ⟨f0, f1, f2, f3, f4, f5⟩ := f
  have ne : C ≠ a := ha.elim (fun z => by rw [z]; exact f1) fun z e => f4 y a z e.symm
  exact ⟨m, hn.sameBut sb ne, fun h3 sb3 => ⟨_, H', I2.turned (t' := s2.toks) (fun b o hb e => (sb3.2 b hb).trans e) f0 f1 f3 f4 f5, q⟩⟩
theorem sw_trueD {gs : List Comprehension} {py : Pos} {y : Str} {l : Nat} {env : PySem.Env} (hk : env.scope.kind = .function) (hy : env.scope.names.lookup y = some .local) (hl : (py.line == pos.line) = true)
    (ha : (scope.names.any fun (n, k) => n == y && (k == .local || k == .cell)) = false) : swapsWith (.DictComp kx vx gs scope pos) (some (.Name y py)) l env = pure true := by
  have ky : env.kindOf y = some .local := hy
  have kb : env.blockKind = .function := by unfold PySem.Env.blockKind; rw [hk] <;> rfl
  unfold swapsWith
  simp only [kb, ky, ha, Expr.pos, hl] <;> rfl
theorem vs_setDc {src : MI} {f : MG} {tt : MT} {tk tv : ME} {tk2 : Opd → Env → Option (O × Env)} {io : IO} {i : Nat} {y : Str} {py spos : Pos} (tok2 : TakeOk tk2) (hio : io i = false) (hc : X.calm = true) (hN : X.N.Nodup) (hy : X.N[i]? = some y) (hyl : X.env.scope.names.lookup y = some .local)
    (hsw : swapsWith (.DictComp kx vx [⟨tg, iter, ifs, 0⟩] scope pos) (some (.Name y py)) spos.line X.env = pure true) (hi : VI X tg iter src) (ok : BlkOk X.N X.env.scope scope own)
    (hg : ∀ (s : Shared) (H : Hp) (C : Addr) (cl : List (Str × Addr)) (fp : List Addr), VG (X.blk s H scope (compEnvC scope cl C X.env) fp) (outIO (own.map (·.2))) tg f)
    (ht : ∀ (s : Shared) (H : Hp) (C : Addr) (cl : List (Str × Addr)) (fp : List Addr), VTs (X.blk s H scope (compEnvC scope cl C X.env) fp) ifs tt)
    (hk : ∀ (s : Shared) (H : Hp) (C : Addr) (cl : List (Str × Addr)) (fp : List Addr), VE (X.blk s H scope (compEnvC scope cl C X.env) fp) kx tk)
    (he : ∀ (s : Shared) (H : Hp) (C : Addr) (cl : List (Str × Addr)) (fp : List Addr), VE (X.blk s H scope (compEnvC scope cl C X.env) fp) vx tv) (hs : ∀ x, foldedSetIterable iter X.env x = pure x := by intro _; rfl) :
    VS X io (.Assign [.Name y py] (.DictComp kx vx [⟨tg, iter, ifs, 0⟩] scope pos) spos) (mSet i tk2 (mDcomp src f tt tk tv (own.map (·.2)))) := by
  refine PS.imp (ps_setDc (wi := tI X.K src) (g := tG X.K (outIO (own.map (·.2))) f) (tt := tBt X.K tt) (tk := tN X.K tk) (tv := tN X.K tv) hc hN hy hyl hsw hi ok hg ht hk he hs) fun D σ H q => ?_
  obtain ⟨P, G, env, fp, c, k, hm, h⟩ := q
  simp only [mSet, Option.bind_eq_some_iff] at hm
  obtain ⟨⟨p, e1⟩, z, ⟨o, e2⟩, z2, hm⟩ := hm
  split at hm
  · rename_i hl
    cases hm
    refine dc_seq ⟨P, G, env, fp, p, e1, k, z, fun v G1 H1 fp1 B s k1 t => ?_⟩
    obtain ⟨G2, fp2, a⟩ := store_tk tok2 hio k1 t z2 hl s
    exact h G2 H1 _ fp2 a
  · cases hm
end
end Pv

namespace Pv
open PySem PySem.Spec PyProof.Rows L2

/-! ### enumerate(a tuple) -/
theorem meets_enum1 {v : Value} {o : Obj} {B : Heap → Prop} (b : Begins v o B) :
    Meets (Builtin.«enumerate.__new__» ⟨[.type "enumerate", v], []⟩) (fun _ R s => B s.heap ∧
      R (.ok (.ret (.ref (s.heap.push o).objs.size))) { s with heap := (s.heap.push o).push { cls := .type "enumerate", data := .fields #[.none, .bool false, .ref s.heap.objs.size, rawInt 0, .none, .none] } }) :=
  .of_wp fun prog w A R s h => by
    obtain ⟨hp, g, d, tk, os⟩ := s; obtain ⟨h1, h⟩ := h
    have hsub := sub_enumerate
    have hnf : (!Builtin.SmallTypes.fitsIndex 0) = false := by decide
    have q1 : ∀ {A1 : Around} {F : Value → Shared → Prop} {Q : Value → Shared → Prop}, Q (.ref hp.objs.size) ⟨hp.push o, g, d, tk, os⟩ → wpAny (model prog w) A1 (pyIter v) Q F ⟨hp, g, d, tk, os⟩ :=
      fun q => b.iter prog w _ _ ⟨hp, g, d, tk, os⟩ _ h1 q
    wp_walk using q1
    refine wpAny_stack_any fun st => wpAny_pure ?_
    split
    · rename_i c _ _ _ _ _
      cases (c == Value.type "enumerate")
      · wp_walk using q1
        exact ⟨_, rfl, h⟩
      · wp_walk using q1
        exact ⟨_, rfl, h⟩
    · wp_walk using q1
      exact ⟨_, rfl, h⟩
theorem enum1_begins {prog : Program} {w : World} {A : Around} {E : Value → Shared → Prop} {s : Shared} {v : Value} {o : Obj} {B : Heap → Prop} {Q : Value → Shared → Prop} (b : Begins v o B) (h1 : B s.heap)
    (h : ∀ h', IsEnum h' (s.heap.objs.size + 1) s.heap.objs.size 0 .none → h'.get? s.heap.objs.size = some o → h'.objs.size = s.heap.objs.size + 2 →
      (∀ b o, s.heap.get? b = some o → h'.get? b = some o) → Q (.ref (s.heap.objs.size + 1)) { s with heap := h' }) :
    wpAny (model prog w) A (call (.type "enumerate") [v]) Q E s := by
  refine callType_new F.called_enumerate (by decide) (F.typeCall_enumerate_1 _) (F.newCall_enumerate_1 _) (fun obj => F.args_object_init_2 obj _) F.entry_enumerate_new
    (meets_enum1 b) ⟨h1, ?_⟩
  have sz : (s.heap.push o).objs.size = s.heap.objs.size + 1 := Heap.size_push ..
  show _ ∧ _
  rw [sz]
  have he : IsEnum ((s.heap.push o).push { cls := .type "enumerate", data := .fields #[.none, .bool false, .ref s.heap.objs.size, rawInt 0, .none, .none] }) (s.heap.objs.size + 1) s.heap.objs.size 0 .none := by
    have q := Heap.get?_push_size (s.heap.push o) (o := { cls := .type "enumerate", data := .fields #[.none, .bool false, .ref s.heap.objs.size, rawInt 0, .none, .none] }) rfl
    rw [sz] at q; exact q
  exact ⟨⟨_, he, rfl⟩, h _ he (Heap.get?_push_of_some _ (Heap.get?_push_size _ b.free)) (by rw [Heap.size_push, sz]) fun b o x => Heap.get?_push_of_some _ (Heap.get?_push_of_some _ x)⟩
/-- the tuple at a, each item in a new pair -/
def IteT (K : PySem.W.Frag) (a : Addr) : It :=
  ⟨fun i H => ∃ (xs : List V) (x : V), SqT K H a xs ∧ xs[i]? = some x, fun i H v H' => ∃ T x, v = .ref T ∧ H T = none ∧ H' = upd H T (.tup [.int (i : Nat), x]) ∧ ∀ xs, SqT K H a xs → xs[i]? = some x, fun i H => ∃ xs : List V, SqT K H a xs ∧ xs.length ≤ i⟩
theorem tup_ne {h : Heap} {a it : Addr} {i : Nat} {items : Array Value} (ht : h.IsTuple a items) (hi : h.IsTupleIter it a i) : a ≠ it := fun z => by
  obtain ⟨o, h1, c1, _⟩ := ht
  obtain ⟨o2, h2, c2, _⟩ := hi
  rw [z] at h1
  rw [h1] at h2
  cases h2
  rw [c1] at c2
  exact absurd c2 (by decide)
theorem enumT_end {prog : Program} {w : World} {A : Around} {E : Value → Shared → Prop} {s : Shared} {e it l : Addr} {i : Nat} {items : Array Value} {c : Int} {old : Value} {Q : Option Value → Shared → Prop} (hh : A.handled = none)
    (he : IsEnum s.heap e it c old) (hit : s.heap.IsTupleIter it l i) (hl : s.heap.IsTuple l items) (hx : items[i]? = none) (hQ : ∀ h', Heap.ExtBut it s.heap h' → Q none { s with heap := h' }) : wpAny (model prog w) A (pyNext (.ref e)) Q E s := by
  have ty : s.TypeIs (.ref e) "enumerate" := ⟨_, he, rfl⟩
  unfold pyNext
  refine wpAny_bind (wpAny_attempt (wpAny_callSpecial?_slot (name := Str.ofString "__next__") ty F.slot_enumerate_next (wpAny_call_entry F.slot_enumerate_next ty F.entry_enumerate_next ?_ (F.args_enumerate_next_1 _))))
  show wpAny _ A.in1 (field (.ref e) 2 >>= _) _ _ _
  refine wpAny_bind (wpAny_field he rfl (x := .ref it) rfl ?_)
  refine wpAny_bind (wpAny_nextOf_tuple_end hh hit hl hx fun h' x hk ⟨o, ho, hc⟩ => ?_)
  exact wpAny_bind (wpAny_isInstance (T := "StopIteration") (b := true) ⟨o, ho, hc⟩ isSubtype_stop (wpAny_pure (hQ _ hk)))
theorem turn_enumT {P : Program} {w : World} {K : PySem.W.Frag} {elts : List Expr} {kk : Nat} {tpos : Pos} (a e it : Addr) :
    Turn P w K (.Tuple elts kk tpos) (IteT K a) [e, it] e (fun i h => (∃ old, IsEnum h e it ((i : Nat) : Int) old) ∧ h.IsTupleIter it a i ∧ e ≠ it) where
  mem := by simp
  obj := fun i h st b hb => by
    obtain ⟨⟨old, he⟩, ⟨o, ho, hc, hd⟩, _⟩ := st
    rcases (show b = e ∨ b = it by simpa using hb) with z | z
    · rw [z]; exact ⟨_, he, fun v q => nomatch q⟩
    · rw [z]; exact ⟨o, ho, fun v q => by rw [hd] at q; cases q⟩
  keep := fun i h h' st k => let ⟨⟨old, he⟩, hi, hne⟩ := st; ⟨⟨old, k e (by simp) _ he⟩, hi.at fun o q => k it (by simp) o q, hne⟩
  item := by
    intro X hP hw hK hc i pins s σ H E I hf st hg
    subst hP hw hK
    obtain ⟨⟨old, he⟩, hit, hne⟩ := st
    obtain ⟨xs, x, hq, hx⟩ := hg
    obtain ⟨its, rv, p, hz⟩ := I.tuple hq
    obtain ⟨u, hu, ru⟩ := rv.get hx
    have pt : s.heap.IsTuple a its.toArray := p
    have nai := tup_ne pt hit
    have nae : a ≠ e := fun z => by
      obtain ⟨o, h1, c1, _⟩ := pt
      rw [z] at h1
      have h2 := he
      unfold IsEnum at h2
      rw [h1] at h2
      cases h2
      exact absurd (show Value.type "enumerate" = Value.type "tuple" from c1) (by decide)
    have hel : e < s.heap.objs.size := Heap.lt_size he
    have hil : it < s.heap.objs.size := by obtain ⟨_, q, _⟩ := hit; exact Heap.lt_size q
    have il : i < its.toArray.size := by
      have := (List.getElem?_eq_some_iff.mp hu).1
      simpa using this
    refine wpAny_pyNext_enum_itemC (c := ((i : Nat) : Int)) (Draws.tuple (prog := X.prog) (w := X.w) (A := X.A.in1) (I.ok.hd hc) it a nai its.toArray) he ⟨hit, pt⟩ il hne (by simp; exact ⟨hne, Ne.symm nae⟩) fun y h' tk hy ho hst hT hsz hk => ?_
    have ey : y = u := by
      have hu' : its.toArray[i]? = some u := by simpa using hu
      rw [hu'] at hy
      exact (Option.some.inj hy).symm
    subst ey
    refine ⟨_, rfl, wpAny_letOwnedTupleGo_enum (s := { s with heap := h', toks := tk + 1 }) ho fun h2 he2 sb => ?_⟩
    have hT2 : h2.get? s.heap.objs.size = some { cls := .type "tuple", data := .seq #[.int i tk, y] } := (sb.2 _ (Nat.ne_of_gt hel)).trans hT
    have new : ObjOk X.prog X.w (upd H s.heap.objs.size (.tup [.int (i : Nat), x])) h2 s.heap.objs.size (.tup [.int (i : Nat), x]) :=
      ⟨by show 2 ≤ sizeLine; decide, [.int i tk, y], .cons ⟨_, rfl⟩ (.cons ru .nil), ⟨_, hT2, rfl, _, rfl⟩⟩
    have I1 : Inv X pins σ (upd H s.heap.objs.size (.tup [.int (i : Nat), x])) { s with heap := h2, toks := tk + 1 } :=
      I.turnedNew (ch := [e, it]) (fun b ob hb q => (sb.2 b (fun z => hb (by simp [z]))).trans (hk b ob (fun z => hb (by simp [z])) (fun z => hb (by simp [z])) q)) hf (Nat.le_refl _) new
    refine ⟨.ref s.heap.objs.size, _, I1, rfl, ⟨_, x, rfl, I.hok.fresh (Nat.le_refl _), rfl, fun ys hy => by rw [I.tuple_inj hy hq]; exact hx⟩, ⟨⟨y, ?_⟩, hst.1.at fun o q => (sb.2 it (Ne.symm hne)).trans q, hne⟩, fun b hb => ?_⟩
    · rw [show ((i + 1 : Nat) : Int) = (i : Int) + 1 by omega]
      exact he2
    · have hb' : b < s.heap.objs.size := by
        rcases (show b = e ∨ b = it by simpa using hb) with z | z
        · rw [z]; exact hel
        · rw [z]; exact hil
      rw [upd_ne (Nat.ne_of_lt hb')]
      exact (hf b hb).1
  done := by
    intro X hP hw hK hc i pins s σ H E I hf st hg
    subst hP hw hK
    obtain ⟨⟨old, he⟩, hit, hne⟩ := st
    obtain ⟨xs, hq, hx⟩ := hg
    obtain ⟨its, rv, p, hz⟩ := I.tuple hq
    obtain ⟨f0, f1, f2, f3, f4, f5⟩ := hf it (by simp)
    have hl := rv.length
    exact enumT_end (I.ok.hd hc) he hit (show s.heap.IsTuple a its.toArray from p) (by simp; omega) fun h' eb => ⟨rfl, I.turned (t' := s.toks) (fun b o hb q => eb b o hb q) f0 f1 f3 f4 f5⟩
  self := fun A i s Q E st h => let ⟨⟨_, he⟩, _⟩ := st; wpAny_pyIter_enum he h
def iEnumA (K : PySem.W.Frag) (ta : TA) : TI := fun σ H R => ta σ H fun vs H1 => ∃ a xs, vs = [.ref a] ∧ ((SqL K H1 a xs ∧ R (Ite K a) H1) ∨ (SqT K H1 a xs ∧ R (IteT K a) H1))
theorem pi_enumA {X : Cx} {e : Expr} {ta : TA} {p pos tpos : Pos} {elts : List Expr} {kk : Nat} (hg : Gl X "enumerate") (hm : X.mg "enumerate" = none) (ha : PA X [e] ta) (hs : starEach [e] X.env = [(false, eval e X.env)] := by rfl) :
    PI X (.Tuple elts kk tpos) (.Call (.Name "enumerate" p) [e] [] pos) (iEnumA X.K ta) := by
  refine ⟨fun pins s σ H R I h => ?_⟩
  refine Call_ (ld_blt I hg hm boot_enumerate (PyProof.Rows.callWith_type1 (thn (ha.run pos pins s σ H _ I h) fun us s1 ⟨vs, H1, I1, r1, q1⟩ => ?_) hs rfl))
  obtain ⟨a, xs, ex, q⟩ := q1
  subst ex
  cases r1 with
  | cons r rr =>
    cases rr
    cases r
    have fpo : ∀ b ∈ [s1.heap.objs.size + 1, s1.heap.objs.size], FpOk X pins H1 b := fun b hb => by
      have hle : s1.heap.objs.size ≤ b := by
        rcases (show b = s1.heap.objs.size + 1 ∨ b = s1.heap.objs.size by simpa using hb) with z | z <;> omega
      exact I1.fpOk hle (I1.hok.fresh hle)
    rcases q with ⟨hq, q⟩ | ⟨hq, q⟩
    · obtain ⟨its, rv, p', hz⟩ := I1.list hq
      refine call_enumerate_list p'.isList fun h' he hit hsz hk => wpAny_pyIter_enum he ?_
      have I2 : Inv X pins σ H1 { s1 with heap := h' } := I1.kept (t' := s1.toks) hk
      exact ⟨s1.heap.objs.size + 1, [s1.heap.objs.size + 1, s1.heap.objs.size], _, _, H1, rfl, I2, turn_enum a (s1.heap.objs.size + 1) s1.heap.objs.size, ⟨⟨.none, he⟩, hit, Nat.succ_ne_self _⟩, fpo, q⟩
    · obtain ⟨its, rv, p', hz⟩ := I1.tuple hq
      refine enum1_begins (begins_tuple a its.toArray) (show s1.heap.IsTuple a its.toArray from p') fun h' he hit hsz hk => wpAny_pyIter_enum he ?_
      have I2 : Inv X pins σ H1 { s1 with heap := h' } := I1.kept (t' := s1.toks) hk
      exact ⟨s1.heap.objs.size + 1, [s1.heap.objs.size + 1, s1.heap.objs.size], _, _, H1, rfl, I2, turn_enumT a (s1.heap.objs.size + 1) s1.heap.objs.size, ⟨⟨.none, he⟩, ⟨_, hit, rfl, rfl⟩, Nat.succ_ne_self _⟩, fpo, q⟩
theorem src_enumT {K : PySem.W.Frag} {G H : Hp} {a : Addr} {vs : List V} {ds : List D} {Z : List Addr} (dp : DqAll K G vs ds) (hz : ∀ b ∈ Z, ∃ u, H b = some u) (st : ∀ G' H', Sub G G' → Sub G' H' → (∀ b ∈ Z, H' b = H b) → SqT K H' a vs) : Src K (IteT K a) (enumD 0 ds) Z G H where
  go := fun i G' H' g g' k d hd => by
    rw [enumD_get, Option.map_eq_some_iff] at hd
    obtain ⟨d', hd, rfl⟩ := hd
    obtain ⟨v, hv, r⟩ := dps_get dp hd
    have q := st G' H' g g' k
    refine ⟨⟨vs, v, q, hv⟩, fun x H'' ⟨T, y, e1, e2, e3, e4⟩ => ?_⟩
    have e5 := e4 vs q
    rw [hv] at e5; cases e5
    subst e1 e3
    have x : Ext G' H' (upd G' T (.tup [.int (i : Nat), v])) (upd H' T (.tup [.int (i : Nat), v])) [] := Ext.newF g' e2
    refine ⟨_, x, .tup (SqT.of upd_same) (.cons ?_ (.cons (dp_mono (g.trans x.ge) _ _ r) .nil))⟩
    rw [Nat.zero_add]
    exact .int _
  stop := fun i G' H' g g' k hl => ⟨vs, st G' H' g g' k, by rw [dps_len dp]; rw [enumD_len] at hl; exact hl⟩
  has := hz
@[simp] def mEnumA (m : ME) : MI := fun env => (m env).bind fun r => (still r.1 r.2).bind fun o => (itemsO o).bind fun ds => some (enumD 0 ds, r.2)
theorem vi_enumA {X : Cx} {e : Expr} {m : ME} {p pos tpos : Pos} {elts : List Expr} {kk : Nat} (hg : Gl X "enumerate") (hm : X.mg "enumerate" = none) (he : VE X e m) (hs : starEach [e] X.env = [(false, eval e X.env)] := by rfl) : VI X (.Tuple elts kk tpos) (.Call (.Name "enumerate" p) [e] [] pos) (mEnumA m) := by
  refine PI.imp (pi_enumA hg hm (va_cons he va_nil hs) hs) fun σ H R q => ?_
  obtain ⟨P, G, env, fp, ds, env', k, hm, c⟩ := q
  simp only [mEnumA, Option.bind_eq_some_iff] at hm
  obtain ⟨⟨p, e1⟩, z, o, z2, ds', z3, hm⟩ := hm
  cases hm
  have q1 : tN X.K m σ H fun v H1 => ∃ a xs, v = .ref a ∧ ((SqL X.K H1 a xs ∧ R (Ite X.K a) H1) ∨ (SqT X.K H1 a xs ∧ R (IteT X.K a) H1)) := by
    refine ⟨P, G, env, fp, p, e1, k, z, fun v G1 H1 fp1 B s k1 t => ?_⟩
    obtain ⟨C, r, hC⟩ := still_at k1 t z2
    obtain ⟨a, vs, Z, rfl, hZ, hz, dp, st | st⟩ := items_at r z3
    · exact ⟨a, vs, rfl, .inl ⟨st G1 H1 (Sub.refl _) k1.sub fun _ _ => rfl, c _ G1 H1 fp1 Z (s.less fun _ h => .inl h) k1 (src_enum dp hz st) fun b hb => hC b (hZ b hb)⟩⟩
    · exact ⟨a, vs, rfl, .inr ⟨st G1 H1 (Sub.refl _) k1.sub fun _ _ => rfl, c _ G1 H1 fp1 Z (s.less fun _ h => .inl h) k1 (src_enumT dp hz st) fun b hb => hC b (hZ b hb)⟩⟩
  refine tNs_mono (one_arg q1) fun vs H' h => ?_
  obtain ⟨v, rfl, a, xs, rfl, h⟩ := h
  exact ⟨a, xs, rfl, h⟩
end Pv

namespace Pv
open PySem PySem.Spec PyProof.Rows L2

/-! ### isinstance(x, T), T a built-in type -/
@[simp] def tyO : O → Option String
  | .val .none => some "NoneType"
  | .val (.bool _) => some "bool"
  | .val (.int _) => some "int"
  | .val (.str _) => some "str"
  | .val (.list _) => some "list"
  | .val (.tuple _) => some "tuple"
  | .val (.dict _) => none
  | .own _ => some "list"
  | .odic _ => some "dict"
theorem tyO_ok {K : PySem.W.Frag} {G H : Hp} {v : V} {o : O} {n : String} (w : View K G H v o) (s : Sub G H) (h : tyO o = some n) : TyX K H v (.type n) := by
  obtain ⟨B, r⟩ := w
  cases r with
  | val r =>
    cases r with
    | non => cases h; exact .base .non
    | bl b => cases h; exact .base (.bl b)
    | int i => cases h; exact .base (.int i)
    | str x => cases h; exact .base (.str x)
    | lst h1 h2 =>
      cases h
      rcases sqk_mono s h1 with (q | ⟨o, q⟩) | ⟨its, m, hk, _, _⟩
      · exact .base (.lst q)
      · exact .base (.frz q)
      · exact .kList hk rfl
    | tup h1 h2 =>
      cases h
      rcases sqt_mono s h1 with (q | ⟨o, q⟩) | ⟨o, its, m, hk, hc, _⟩
      · exact .base (.tup q)
      · exact .fTuple q
      · exact .kTuple hk hc
  | own h1 h2 => cases h; exact .base (.lst h1)
  | odic h1 h2 => cases h; exact .base (.dK h1)
@[simp] def fIsi (T : String) : FO := fun os => match os with
  | [o] => (tyO o).bind fun n => (kitB n T).bind fun b => some (.val (.bool b))
  | _ => none
section
variable {X : Cx} {e : Expr} {m : ME} {p p2 pos : Pos} {T : Str} {n : String}
theorem ve_isi (hg : Gl X "isinstance") (hm : X.mg "isinstance" = none) (hg2 : Gl X T) (hm2 : X.mg T = none) (hv : bootBuiltins T = some (.type n)) (hb : bootBuiltins "isinstance" = some (.builtin "isinstance")) (he : VE X e m) (hn : T ≠ "__name__" := by decide) (hd : (T == ("__debug__" : Str)) = false := by decide)
    (hs : starEach [e, .Name T p2] X.env = (false, eval e X.env) :: starEach [.Name T p2] X.env := by rfl) (hs2 : starEach [.Name T p2] X.env = (false, eval (.Name T p2) X.env) :: starEach [] X.env := by rfl) (hpl : (backTo pos (starEach [.Name T p2] X.env)).any (·.1) = false := by rfl) :
    VE X (.Call (.Name "isinstance" p) [e, .Name T p2] [] pos) (mUn (fIsi n) m) := by
  refine PE.imp (pe_callB call_isi hg hm hb (pa_cons he (pa_cons (pe_bltn (v := .ty n) hg2 hm2 hv rfl hn hd) pa_nil hs2) hs) (by decide) (by decide) hs hpl) fun σ H Q q => ?_
  have hf : PureC X.K (fIsi n) (l1 fun x H Q => ∃ t b, TyX X.K H x t ∧ PySem.W.kitOne X.K t (.type n) = some b ∧ Q (.bl b) H) := by
    intro G H vs os o Q s w h k
    unfold fIsi at h
    split at h
    · simp only [Option.bind_eq_some_iff] at h
      obtain ⟨t, h1, b, h2, h3⟩ := h
      cases h3
      obtain ⟨v, rfl, w1⟩ := one_views w rfl
      exact ⟨v, rfl, _, b, tyO_ok w1 s h1, kit_ty h2, fin_val s k rfl (.bl _)⟩
    · cases h
  refine tN_mono (seq_one hf q) fun x H1 h => ?_
  obtain ⟨t, b, h1, h2, h3⟩ := h
  exact ⟨x, .ty n, t, _, b, rfl, .ty n, h1, h2, h3⟩
end
@[simp] theorem kit_int_int : kitB "int" "int" = some true := by decide +kernel
@[simp] theorem kit_int_bool : kitB "int" "bool" = some false := by decide +kernel
@[simp] theorem kit_int_str : kitB "int" "str" = some false := by decide +kernel
@[simp] theorem kit_int_list : kitB "int" "list" = some false := by decide +kernel
@[simp] theorem kit_int_tuple : kitB "int" "tuple" = some false := by decide +kernel
@[simp] theorem kit_int_dict : kitB "int" "dict" = some false := by decide +kernel
@[simp] theorem kit_bool_int : kitB "bool" "int" = some true := by decide +kernel
@[simp] theorem kit_bool_bool : kitB "bool" "bool" = some true := by decide +kernel
@[simp] theorem kit_bool_str : kitB "bool" "str" = some false := by decide +kernel
@[simp] theorem kit_bool_list : kitB "bool" "list" = some false := by decide +kernel
@[simp] theorem kit_bool_tuple : kitB "bool" "tuple" = some false := by decide +kernel
@[simp] theorem kit_bool_dict : kitB "bool" "dict" = some false := by decide +kernel
@[simp] theorem kit_str_int : kitB "str" "int" = some false := by decide +kernel
@[simp] theorem kit_str_bool : kitB "str" "bool" = some false := by decide +kernel
@[simp] theorem kit_str_str : kitB "str" "str" = some true := by decide +kernel
@[simp] theorem kit_str_list : kitB "str" "list" = some false := by decide +kernel
@[simp] theorem kit_str_tuple : kitB "str" "tuple" = some false := by decide +kernel
@[simp] theorem kit_str_dict : kitB "str" "dict" = some false := by decide +kernel
@[simp] theorem kit_list_int : kitB "list" "int" = some false := by decide +kernel
@[simp] theorem kit_list_bool : kitB "list" "bool" = some false := by decide +kernel
@[simp] theorem kit_list_str : kitB "list" "str" = some false := by decide +kernel
@[simp] theorem kit_list_list : kitB "list" "list" = some true := by decide +kernel
@[simp] theorem kit_list_tuple : kitB "list" "tuple" = some false := by decide +kernel
@[simp] theorem kit_list_dict : kitB "list" "dict" = some false := by decide +kernel
@[simp] theorem kit_tuple_int : kitB "tuple" "int" = some false := by decide +kernel
@[simp] theorem kit_tuple_bool : kitB "tuple" "bool" = some false := by decide +kernel
@[simp] theorem kit_tuple_str : kitB "tuple" "str" = some false := by decide +kernel
@[simp] theorem kit_tuple_list : kitB "tuple" "list" = some false := by decide +kernel
@[simp] theorem kit_tuple_tuple : kitB "tuple" "tuple" = some true := by decide +kernel
@[simp] theorem kit_tuple_dict : kitB "tuple" "dict" = some false := by decide +kernel
@[simp] theorem kit_dict_int : kitB "dict" "int" = some false := by decide +kernel
@[simp] theorem kit_dict_bool : kitB "dict" "bool" = some false := by decide +kernel
@[simp] theorem kit_dict_str : kitB "dict" "str" = some false := by decide +kernel
@[simp] theorem kit_dict_list : kitB "dict" "list" = some false := by decide +kernel
@[simp] theorem kit_dict_tuple : kitB "dict" "tuple" = some false := by decide +kernel
@[simp] theorem kit_dict_dict : kitB "dict" "dict" = some true := by decide +kernel
@[simp] theorem kit_NoneType_int : kitB "NoneType" "int" = some false := by decide +kernel
@[simp] theorem kit_NoneType_bool : kitB "NoneType" "bool" = some false := by decide +kernel
@[simp] theorem kit_NoneType_str : kitB "NoneType" "str" = some false := by decide +kernel
@[simp] theorem kit_NoneType_list : kitB "NoneType" "list" = some false := by decide +kernel
@[simp] theorem kit_NoneType_tuple : kitB "NoneType" "tuple" = some false := by decide +kernel
@[simp] theorem kit_NoneType_dict : kitB "NoneType" "dict" = some false := by decide +kernel
end Pv

namespace Pv
open PySem PySem.Spec PyProof.Rows L2

/-! ### max, min of three -/
section
variable {K : PySem.W.Frag} {G H : Hp}
theorem three_views {vs : List V} {os : List O} {x y z : O} (w : Views K G H vs os) (h : os = [x, y, z]) : ∃ v u t, vs = [v, u, t] ∧ View K G H v x ∧ View K G H u y ∧ View K G H t z := by
  subst h
  cases w with
  | cons w1 w2 => cases w2 with | cons w3 w4 => cases w4 with | cons w5 w6 => cases w6; exact ⟨_, _, _, rfl, w1, w3, w5⟩
end
@[simp] def fMax3 : FO := fun os => match os with
  | [.val (.int i), .val (.int j), .val (.int l)] => some (.val (.int (max (max i j) l)))
  | _ => none
@[simp] def fMin3 : FO := fun os => match os with
  | [.val (.int i), .val (.int j), .val (.int l)] => some (.val (.int (min (min i j) l)))
  | _ => none
theorem fMax3_ok {K : PySem.W.Frag} : PureC K fMax3 (rNuC3 nuMax3) := by
  intro G H vs os o Q s w h k
  unfold fMax3 at h
  split at h
  · rename_i i j l
    cases h
    obtain ⟨v, u, t, rfl, w1, w2, w3⟩ := three_views w rfl
    refine ⟨_, _, _, .int (max (max i j) l), rfl, ?_, fin_val s k rfl (.int _)⟩
    rw [view_int w1, view_int w2, view_int w3]
    simp only [nuMax3, nuMax2, nuLt, nuCB, Option.map_some, Option.bind_some]
    by_cases c1 : i < j
    · have e : max i j = j := by omega
      by_cases c2 : j < l
      · have e2 : max j l = l := by omega
        simp [c1, c2, e, e2]
      · have e2 : max j l = j := by omega
        simp [c1, c2, e, e2]
    · have e : max i j = i := by omega
      by_cases c2 : i < l
      · have e2 : max i l = l := by omega
        simp [c1, c2, e, e2]
      · have e2 : max i l = i := by omega
        simp [c1, c2, e, e2]
  · cases h
theorem fMin3_ok {K : PySem.W.Frag} : PureC K fMin3 (rNuC3 nuMin3) := by
  intro G H vs os o Q s w h k
  unfold fMin3 at h
  split at h
  · rename_i i j l
    cases h
    obtain ⟨v, u, t, rfl, w1, w2, w3⟩ := three_views w rfl
    refine ⟨_, _, _, .int (min (min i j) l), rfl, ?_, fin_val s k rfl (.int _)⟩
    rw [view_int w1, view_int w2, view_int w3]
    simp only [nuMin3, nuMin2, nuLt, nuCB, Option.map_some, Option.bind_some]
    by_cases c1 : j < i
    · have e : min i j = j := by omega
      by_cases c2 : l < j
      · have e2 : min j l = l := by omega
        simp [c1, c2, e, e2]
      · have e2 : min j l = j := by omega
        simp [c1, c2, e, e2]
    · have e : min i j = i := by omega
      by_cases c2 : l < i
      · have e2 : min i l = l := by omega
        simp [c1, c2, e, e2]
      · have e2 : min i l = i := by omega
        simp [c1, c2, e, e2]
  · cases h

/-! ### takes, one for each -/
abbrev MTk := Opd → Env → Option (O × Env)
@[simp] def takesL : List MTk → List Opd → Env → Option (List O × Env)
  | [], [], env => some ([], env)
  | tk :: tks, p :: ps, env => (tk p env).bind fun r => (takesL tks ps r.2).bind fun s => some (r.1 :: s.1, s.2)
  | _, _, _ => none
theorem takesL_ok : ∀ {K : PySem.W.Frag} {P : Pt} {H : Hp} {σ : L2.St} {tks : List MTk} {ps : List Opd} {G : Hp} {env : Env} {fp : Fp} {vs : List V} {B : List Addr} {os : List O} {env' : Env}, (∀ tk ∈ tks, TakeOk tk) →
    Ok K P G H σ env fp → Tps K P G H σ (Own env fp) vs ps B → takesL tks ps env = some (os, env') →
    ∃ G' fp' C, Sub G G' ∧ (∀ a u, G' a = some u → G a = some u ∨ Own env fp a ∨ a ∈ B) ∧ Ok K P G' H σ env' fp' ∧ Ros K G' H vs os C ∧ C.Nodup ∧ (∀ a ∈ C, ¬ Own env' fp' a ∧ G' a = none ∧ ¬ Pr P a) ∧ (∀ a ∈ C, a ∈ B ∨ Own env fp a) ∧ ∀ a, Own env' fp' a → Own env fp a
  | K, P, H, σ, [], [], G, env, fp, vs, B, os, env', tok, k, t, h => by
    cases h
    have r := t.rep
    cases r
    exact ⟨G, fp, [], Sub.refl _, fun _ _ z => .inl z, k, .nil, List.nodup_nil, fun _ z => (nomatch z), fun _ z => (nomatch z), fun _ z => z⟩
  | K, P, H, σ, [], p :: ps, G, env, fp, vs, B, os, env', tok, k, t, h => by cases h
  | K, P, H, σ, tk :: tks, [], G, env, fp, vs, B, os, env', tok, k, t, h => by cases h
  | K, P, H, σ, tk :: tks, p :: ps, G, env, fp, vs, B, os, env', tok, k, t, h => by
    simp only [takesL, Option.bind_eq_some_iff] at h
    obtain ⟨⟨o, e1⟩, h1, ⟨os', e2⟩, h2, h3⟩ := h
    cases h3
    cases vs with
    | nil => have r := t.rep; cases r
    | cons v vs =>
      obtain ⟨G1, fp1, B1, C1, x⟩ := tok tk (by simp) k t h1
      obtain ⟨G2, fp2, C, ge, frz, k2, rs, nd, off, sub, own⟩ := takesL_ok (fun tk h => tok tk (List.mem_cons_of_mem _ h)) x.ok x.rest h2
      have notB : ∀ a ∈ B1, ¬ (Own e1 fp1 a ∨ a ∈ C1) := fun a ha q => q.elim (x.off a ha).1 (x.off a ha).2.2.2
      have g2 : ∀ a ∈ B1, G2 a = none := fun a ha => by
        cases e : G2 a with
        | none => rfl
        | some u =>
          rcases frz a u e with z | z
          · rw [(x.off a ha).2.1] at z; cases z
          · exact absurd z (notB a ha)
      refine ⟨G2, fp2, B1 ++ C, x.ge.trans ge, fun a u z => ?_, k2, .cons (ro_mono ge _ _ _ (fun _ _ => rfl) x.ro) rs, ?_, fun a ha => ?_, fun a ha => ?_, fun a z => x.own a (own a z)⟩
      · rcases frz a u z with z | z | z
        · exact x.frz a u z
        · exact .inr (.inl (x.own a z))
        · exact .inr ((x.sub a (.inr z)).symm)
      · rw [List.nodup_append]
        refine ⟨x.nd, nd, fun a ha b hb e => ?_⟩
        subst e
        exact notB a ha ((sub a hb).symm)
      · rcases List.mem_append.mp ha with ha | ha
        · exact ⟨fun q => notB a ha (.inl (own a q)), g2 a ha, (x.off a ha).2.2.1⟩
        · exact off a ha
      · rcases List.mem_append.mp ha with ha | ha
        · exact x.sub a (.inl ha)
        · rcases sub a ha with z | z
          · exact x.sub a (.inr z)
          · exact .inr (x.own a z)
theorem tks_nil : ∀ tk ∈ ([] : List MTk), TakeOk tk := fun _ h => nomatch h
theorem tks_cons {tk : MTk} {tks : List MTk} (h : TakeOk tk) (t : ∀ k ∈ tks, TakeOk k) : ∀ k ∈ tk :: tks, TakeOk k := by
  intro k q
  rcases List.mem_cons.mp q with e | q
  · rw [e]; exact h
  · exact t k q
theorem ios_nil {io : IO} : ∀ q ∈ ([] : List Nat), io q = false := fun _ h => nomatch h
theorem ios_cons {io : IO} {i : Nat} {is : List Nat} (h : io i = false) (t : ∀ q ∈ is, io q = false) : ∀ q ∈ i :: is, io q = false := fun k q => (List.mem_cons.mp q).elim (fun e => e ▸ h) (t k)
/-- put to slots -/
@[simp] def putsE : List Nat → List O → Env → Option Env
  | [], [], env => some env
  | i :: is, o :: os, env => if i < env.length then putsE is os (env.set i (.wr o)) else none
  | _, _, _ => none
def putsS : List Nat → List V → L2.St → L2.St
  | i :: is, v :: vs, σ => putsS is vs (σ.set i (some v))
  | _, _, σ => σ
theorem puts_ok {K : PySem.W.Frag} {P : Pt} {G H : Hp} {io : IO} : ∀ {is : List Nat} {os : List O} {vs : List V} {C : List Addr} {σ σ0 : L2.St} {env env' : Env} {fp : Fp}, Ok K P G H σ env fp → Ros K G H vs os C → C.Nodup → (∀ a ∈ C, ¬ Own env fp a ∧ G a = none ∧ ¬ Pr P a) →
    (∀ i ∈ is, io i = false) → Kio io σ0 σ → putsE is os env = some env' → ∃ fp', Ok K P G H (putsS is vs σ) env' fp' ∧ (∀ a, Own env' fp' a → Own env fp a ∨ a ∈ C) ∧ Kio io σ0 (putsS is vs σ)
  | [], [], vs, C, σ, σ0, env, env', fp, k, rs, nd, off, hio, kio, h => by
    cases h
    cases rs
    exact ⟨fp, k, fun a q => .inl q, kio⟩
  | i :: is, [], vs, C, σ, σ0, env, env', fp, k, rs, nd, off, hio, kio, h => by cases h
  | [], o :: os, vs, C, σ, σ0, env, env', fp, k, rs, nd, off, hio, kio, h => by cases h
  | i :: is, o :: os, vs, C, σ, σ0, env, env', fp, k, rs, nd, off, hio, kio, h => by
    simp only [putsE] at h
    split at h
    case isFalse => cases h
    case isTrue hl =>
    cases rs with
    | @cons v _ A1 vs' _ C' r1 rs =>
      obtain ⟨n1, n2, n3⟩ := List.nodup_append.mp nd
      have k3 := k.putA (v := v) hl r1 n1 fun a ha => off a (List.mem_append_left _ ha)
      have off2 := off_put (i := i) (o := o) (fun a ha => off a (List.mem_append_right _ ha)) (fun a ha hb => n3 a ha a hb rfl)
      obtain ⟨fp', k4, own, kio'⟩ := puts_ok k3 rs n2 off2 (fun j hj => hio j (List.mem_cons_of_mem _ hj)) (kio.set (hio i (by simp))) h
      refine ⟨fp', k4, fun a q => ?_, kio'⟩
      rcases own a q with q | q
      · rcases own_put q with q | q
        · exact .inl q
        · exact .inr (List.mem_append_left _ q)
      · exact .inr (List.mem_append_right _ q)
@[simp] def mParL (is : List Nat) (tks : List MTk) (ms : MA) : MS := fun env => (ms env).bind fun r => (takesL tks r.1 r.2).bind fun s => (putsE is s.1 s.2).bind fun e => some (.nx e)
section
variable {X : Cx} {io : IO} {i j l : Nat} {x y z : Str} {a b c : Expr} {ms : MA} {px py pz pt pos : Pos} {kt k2 pt2} {tks : List MTk}
/-- what stands behind -/
theorem parL_end {K : PySem.W.Frag} {P : Pt} {G H G1 H1 : Hp} {σ : L2.St} {env e1 e2 e3 : Env} {fp fp1 : Fp} {is : List Nat} {ps : List Opd} {vs : List V} {B : List Addr} {os : List O} {D : Ends} (tok : ∀ tk ∈ tks, TakeOk tk) (hio : ∀ i ∈ is, io i = false)
    (s : Stp G H (Own env fp) G1 H1 (fun a => Own e1 fp1 a ∨ a ∈ B)) (k1 : Ok K P G1 H1 σ e1 fp1) (t : Tps K P G1 H1 σ (Own e1 fp1) vs ps B) (z2 : takesL tks ps e1 = some (os, e2)) (z3 : putsE is os e2 = some e3)
    (h : endD K P io G H σ (Own env fp) D (.nx e3)) : D.nx (putsS is vs σ) H1 := by
  obtain ⟨G2, fp2, C, ge, frz, k2, rs, nd, off, sub, own⟩ := takesL_ok tok k1 t z2
  obtain ⟨fp3, k3, own3, kio⟩ := puts_ok k2 rs nd off hio (Kio.refl _ _) z3
  refine h G2 H1 _ fp3 ⟨s.trans ⟨ge, fun _ _ h _ => h, fun a h => ?_, fun a u h => (frz a u h).imp id .inl⟩, kio, k3⟩
  rcases own3 a h with h | h
  · exact .inl (.inl (own a h))
  · exact .inl ((sub a h).symm)
theorem vs_parL2 (tok : ∀ tk ∈ tks, TakeOk tk) (hio : ∀ q ∈ [i, j], io q = false) (hc : X.calm = true) (hN : X.N.Nodup) (hi : X.N[i]? = some x) (hj : X.N[j]? = some y) (hij : i ≠ j)
    (hx : X.env.scope.names.lookup x = some .local) (hy : X.env.scope.names.lookup y = some .local) (ha : VA X [a, b] ms)
    (hw : swappedStores [.Tuple [.Name x px, .Name y py] kt pt] (.Tuple [a, b] k2 pt2) X.env = pure (some [x, y]))
    (hs : swapsWithSole [.Tuple [.Name x px, .Name y py] kt pt] (.Tuple [a, b] k2 pt2) pos.line X.env = pure false := by rfl) :
    VS X io (.Assign [.Tuple [.Name x px, .Name y py] kt pt] (.Tuple [a, b] k2 pt2) pos) (mParL [i, j] tks ms) := by
  refine PS.imp (ps_par hc hN hi hj hij hx hy ha hw hs) fun D σ H q => ?_
  obtain ⟨P, G, env, fp, c, k, hm, h⟩ := q
  simp only [mParL, Option.bind_eq_some_iff] at hm
  obtain ⟨⟨ps, e1⟩, z, ⟨os, e2⟩, z2, e3, z3, hm⟩ := hm
  cases hm
  refine ⟨P, G, env, fp, ps, e1, k, z, fun vs G1 H1 fp1 B s k1 t => ?_⟩
  have fin := parL_end tok hio s k1 t z2 z3 h
  obtain ⟨o1, o2, rfl⟩ : ∃ o1 o2, os = [o1, o2] := by
    match os, z3 with
    | [o1, o2], _ => exact ⟨o1, o2, rfl⟩
    | [], z3 => simp [putsE] at z3
    | [_], z3 => simp [putsE] at z3
    | _ :: _ :: _ :: _, z3 => simp [putsE] at z3
  obtain ⟨G2, fp2, C, ge, frz, k2, rs, _⟩ := takesL_ok tok k1 t z2
  cases rs with
  | cons r1 rs => cases rs with | cons r2 rs => cases rs; exact ⟨_, _, rfl, fin⟩
theorem vs_parL3 (tok : ∀ tk ∈ tks, TakeOk tk) (hio : ∀ q ∈ [i, j, l], io q = false) (hc : X.calm = true) (hN : X.N.Nodup) (hi : X.N[i]? = some x) (hj : X.N[j]? = some y) (hl : X.N[l]? = some z) (hij : i ≠ j) (hil : i ≠ l) (hjl : j ≠ l)
    (hx : X.env.scope.names.lookup x = some .local) (hy : X.env.scope.names.lookup y = some .local) (hz : X.env.scope.names.lookup z = some .local) (ha : VA X [a, b, c] ms)
    (hw : swappedStores [.Tuple [.Name x px, .Name y py, .Name z pz] kt pt] (.Tuple [a, b, c] k2 pt2) X.env = pure (some [x, y, z]))
    (hs : swapsWithSole [.Tuple [.Name x px, .Name y py, .Name z pz] kt pt] (.Tuple [a, b, c] k2 pt2) pos.line X.env = pure false := by rfl) :
    VS X io (.Assign [.Tuple [.Name x px, .Name y py, .Name z pz] kt pt] (.Tuple [a, b, c] k2 pt2) pos) (mParL [i, j, l] tks ms) := by
  refine PS.imp (ps_par3 hc hN hi hj hl hij hil hjl hx hy hz ha hw hs) fun D σ H q => ?_
  obtain ⟨P, G, env, fp, c, k, hm, h⟩ := q
  simp only [mParL, Option.bind_eq_some_iff] at hm
  obtain ⟨⟨ps, e1⟩, z, ⟨os, e2⟩, z2, e3, z3, hm⟩ := hm
  cases hm
  refine ⟨P, G, env, fp, ps, e1, k, z, fun vs G1 H1 fp1 B s k1 t => ?_⟩
  have fin := parL_end tok hio s k1 t z2 z3 h
  obtain ⟨o1, o2, o3, rfl⟩ : ∃ o1 o2 o3, os = [o1, o2, o3] := by
    match os, z3 with
    | [o1, o2, o3], _ => exact ⟨o1, o2, o3, rfl⟩
    | [], z3 => simp [putsE] at z3
    | [_], z3 => simp [putsE] at z3
    | [_, _], z3 => simp [putsE] at z3
    | _ :: _ :: _ :: _ :: _, z3 => simp [putsE] at z3
  obtain ⟨G2, fp2, C, ge, frz, k2, rs, _⟩ := takesL_ok tok k1 t z2
  cases rs with
  | cons r1 rs => cases rs with | cons r2 rs => cases rs with | cons r3 rs => cases rs; exact ⟨_, _, _, rfl, fin⟩
/-- targets that are names, of a tuple that nobody keeps -/
def gPuts (is : List Nat) : TGs := fun vs σ H Q => vs.length = is.length ∧ Q (putsS is vs σ) H
def VGo (X : Cx) (tgs : List Expr) (is : List Nat) : Prop := PGs X tgs (gPuts is)
theorem vgo_nil : VGo X [] [] := by
  refine PGs.imp pgs_nil fun vs σ H Q q => ?_
  obtain ⟨h, q⟩ := q
  obtain rfl := List.length_eq_zero_iff.mp h
  exact ⟨rfl, q⟩
theorem vgo_cons {es : List Expr} {is : List Nat} {p : Pos} (hN : X.N.Nodup) (hi : X.N[i]? = some x) (hx : Loc X.env.scope x) (h2 : VGo X es is) (hf : X.fn x = true ∨ X.env.scope.names.lookup x = some .local := by first | exact .inl rfl | exact .inr rfl | assumption)
    (hs : (assignEach (.Name x p :: es) X.env).map (·.2) = assign (.Name x p) X.env :: (assignEach es X.env).map (·.2) := by rfl) : VGo X (.Name x p :: es) (i :: is) := by
  refine PGs.imp (pgs_cons (pg_name hN hi hx hf) h2 hs) fun vs σ H Q q => ?_
  obtain ⟨h, q⟩ := q
  cases vs with
  | nil => simp at h
  | cons v vs => exact ⟨v, vs, rfl, by simpa using h, q⟩
theorem putsE_len : ∀ {is : List Nat} {os : List O} {env e : Env}, putsE is os env = some e → os.length = is.length
  | [], [], env, e, h => rfl
  | i :: is, [], env, e, h => by simp [putsE] at h
  | [], o :: os, env, e, h => by simp [putsE] at h
  | i :: is, o :: os, env, e, h => by
    simp only [putsE] at h
    split at h
    · simp [putsE_len h]
    · cases h
theorem vs_parL {es ts : List Expr} {is : List Nat} (tok : ∀ tk ∈ tks, TakeOk tk) (hio : ∀ q ∈ is, io q = false) (hc : X.calm = true) (ha : VA X es ms) (hg : VGo X ts is) (hz : is.length ≤ sizeLine := by decide) (hn : (assignEach ts X.env).length = is.length := by rfl) (hst : (assignEach ts X.env).findIdx? (·.1) = none := by rfl)
    (hs : swapsWithSole [.Tuple ts kt pt] (.Tuple es k2 pt2) pos.line X.env = pure false := by rfl) (hw : swappedStores [.Tuple ts kt pt] (.Tuple es k2 pt2) X.env = pure none := by rfl) (h1 : (assignEach [.Tuple ts kt pt] X.env).map (·.2) = [assign (.Tuple ts kt pt) X.env] := by rfl) :
    VS X io (.Assign [.Tuple ts kt pt] (.Tuple es k2 pt2) pos) (mParL is tks ms) := by
  refine PS.imp (ps_asg (pe_tup ha) (pg_tup hc hg hn hst) hs hw h1) fun D σ H q => ?_
  obtain ⟨P, G, env, fp, c, k, hm, h⟩ := q
  simp only [mParL, Option.bind_eq_some_iff] at hm
  obtain ⟨⟨ps, e1⟩, z, ⟨os, e2⟩, z2, e3, z3, hm⟩ := hm
  cases hm
  refine ⟨P, G, env, fp, ps, e1, k, z, fun vs G1 H1 fp1 B s k1 t => ?_⟩
  obtain ⟨G2, fp2, C, ge, frz, k2, rs, nd, off, sub, own⟩ := takesL_ok tok k1 t z2
  have hl : vs.length = is.length := by rw [ros_len rs]; exact putsE_len z3
  refine ⟨by rw [hl]; exact hz, fun p np => ⟨p, vs, rfl, SqT.of upd_same, hl, hl, ?_⟩⟩
  have x : Ext G2 H1 (upd G2 p (.tup vs)) (upd H1 p (.tup vs)) [] := Ext.newF k2.sub np
  have cne : ∀ a ∈ C, a ≠ p := fun a ha e => by
    obtain ⟨u, hu⟩ := ros_some _ _ _ rs a ha
    rw [e, np] at hu; cases hu
  have off' : ∀ a ∈ C, ¬ Own e2 fp2 a ∧ (upd G2 p (.tup vs)) a = none ∧ ¬ Pr P a := fun a ha => ⟨(off a ha).1, by rw [upd_ne (cne a ha)]; exact (off a ha).2.1, (off a ha).2.2⟩
  obtain ⟨fp3, k3, own3, kio⟩ := puts_ok (io := io) (is := is) (k2.ext x) (ros_mono x.ge _ _ _ (fun a ha => upd_ne (cne a ha)) rs) nd off' hio (Kio.refl _ _) z3
  refine h _ _ _ fp3 ⟨s.trans ⟨ge.trans x.ge, fun a o h _ => x.keep a o h, fun a q => ?_, fun a o q => ?_⟩, kio, k3⟩
  · rcases own3 a q with q | q
    · exact .inl (.inl (own a q))
    · exact .inl ((sub a q).symm)
  · rcases x.frz a o q with q | q
    · exact (frz a o q).imp id .inl
    · exact .inr (.inr q)
end
end Pv

namespace Pv
open PySem PySem.Spec PyProof.Rows L2

/-! ### dicts as sets of numbers -/
theorem putO_len (kvs : List (Key × O)) (k : Key) (o : O) : (putO kvs k o).length ≤ kvs.length + 1 := by
  unfold putO
  split <;> simp
theorem getO_put (k q : Key) (o : O) : ∀ kvs : List (Key × O), getO (putO kvs k o) q = if q = k then some o else getO kvs q := by
  have mp : ∀ kvs : List (Key × O), (kvs.any fun kv => decide (kv.1 = k)) = true → getO (kvs.map fun kv => if kv.1 = k then (kv.1, o) else kv) q = if q = k then some o else getO kvs q := by
    intro kvs
    induction kvs with
    | nil => intro h; simp at h
    | cons kv kvs ih =>
      intro h
      obtain ⟨k0, v0⟩ := kv
      by_cases e : k0 = k
      · subst e
        by_cases e2 : q = k0
        · subst e2; simp [getO]
        · have e3 : ¬ k0 = q := fun h => e2 h.symm
          by_cases hk : (kvs.any fun kv => decide (kv.1 = k0)) = true
          · have := ih hk
            simp [e2] at this
            simp [getO, List.find?_cons, e2, e3] at this ⊢
            exact this
          · have nm : kvs.map (fun kv => if kv.1 = k0 then (kv.1, o) else kv) = kvs := by
              conv => rhs; rw [← List.map_id kvs]
              apply List.map_congr_left
              intro kv hkv
              have : ¬ kv.1 = k0 := fun h' => hk (by simp only [List.any_eq_true, decide_eq_true_eq]; exact ⟨kv, hkv, h'⟩)
              simp [this]
            simp only [List.map_cons, if_true, nm]
            simp [getO, List.find?_cons, e2, e3]
      · have hk : (kvs.any fun kv => decide (kv.1 = k)) = true := by simpa [e] using h
        have := ih hk
        by_cases e2 : k0 = q
        · subst e2; simp [getO, List.find?_cons, e]
        · simp only [List.map_cons, if_neg e]
          simp [getO, List.find?_cons, e2] at this ⊢
          exact this
  intro kvs
  unfold putO
  by_cases h : (kvs.any fun kv => decide (kv.1 = k)) = true
  · rw [if_pos h]; exact mp kvs h
  · rw [if_neg h]
    have hn : ∀ kv ∈ kvs, ¬ kv.1 = k := fun kv hkv h' => h (by simp only [List.any_eq_true, decide_eq_true_eq]; exact ⟨kv, hkv, h'⟩)
    unfold getO
    rw [List.find?_append]
    by_cases e : q = k
    · subst e
      have : kvs.find? (fun kv => decide (kv.1 = q)) = none := by
        rw [List.find?_eq_none]; intro kv hkv; simpa using hn kv hkv
      simp [this]
    · have e3 : ¬ k = q := fun h => e h.symm
      simp [e, e3, List.find?_cons]
/-- the keys of a dict -/
def Has (kvs : List (Key × O)) (S : Int → Prop) : Prop := ∀ x : Int, (getO kvs (.inl x)).isSome = true ↔ S x

theorem Has.nil : Has [] fun _ => False := fun x => by simp [getO]
theorem Has.congr {kvs : List (Key × O)} {S T : Int → Prop} (h : Has kvs S) (e : ∀ x, S x ↔ T x) : Has kvs T := fun x => (h x).trans (e x)
theorem Has.put {kvs : List (Key × O)} {S : Int → Prop} (h : Has kvs S) (k : Int) (o : O) : Has (putO kvs (.inl k) o) fun x => x = k ∨ S x := by
  intro x
  rw [getO_put]
  by_cases e : x = k
  · subst e; simp
  · have e' : ¬ (Sum.inl x : Key) = .inl k := fun q => e (Sum.inl.inj q)
    simp [e]; exact h x
theorem Has.isT {kvs : List (Key × O)} {S : Int → Prop} (h : Has kvs S) {x : Int} (q : S x) : (getO kvs (.inl x)).isSome = true := (h x).mpr q
theorem Has.isF {kvs : List (Key × O)} {S : Int → Prop} (h : Has kvs S) {x : Int} (q : ¬ S x) : (getO kvs (.inl x)).isSome = false := by
  cases e : (getO kvs (.inl x)).isSome with
  | false => rfl
  | true => exact absurd ((h x).mp e) q
/-! ### dicts all of whose keys are numbers -/
def AllI (kvs : List (Key × O)) : Prop := ∀ kv ∈ kvs, ∃ x : Int, kv.1 = .inl x
theorem AllI.nil : AllI [] := fun _ h => nomatch h
theorem AllI.put {kvs : List (Key × O)} (h : AllI kvs) (k : Int) (o : O) : AllI (putO kvs (.inl k) o) := by
  intro kv hkv
  unfold putO at hkv
  split at hkv
  · obtain ⟨kv0, h0, rfl⟩ := List.mem_map.mp hkv
    obtain ⟨x, hx⟩ := h kv0 h0
    refine ⟨x, ?_⟩
    split
    · exact hx
    · exact hx
  · rcases List.mem_append.mp hkv with h1 | h1
    · exact h kv h1
    · simp at h1; subst h1; exact ⟨k, rfl⟩
/-- a loop that puts keys -/
theorem forL_keys {f : MG} {body : MS} (fr : List (Key × O) → Sl → Env) (g : D → Int) : ∀ (ds : List D) (kvs : List (Key × O)) (s : Sl),
    (∀ d ∈ ds, ∀ kvs s, kvs.length < 16777216 → (putO kvs (.inl (g d)) (.val (.bool true))).length < 16777216 → ∃ s', (f d (fr kvs s)).bind body = some (.nx (fr (putO kvs (.inl (g d)) (.val (.bool true))) s'))) → kvs.length + ds.length < 16777216 →
    ∃ kvs' s', forL f body ds (fr kvs s) = some (.nx (fr kvs' s')) ∧ kvs'.length ≤ kvs.length + ds.length ∧ (∀ S, Has kvs S → Has kvs' fun x => S x ∨ ∃ d ∈ ds, x = g d) ∧ (AllI kvs → AllI kvs')
  | [], kvs, s, h, hl => ⟨kvs, s, rfl, by simp, fun S hS => hS.congr fun x => by simp, id⟩
  | d :: ds, kvs, s, h, hl => by
    have pl := putO_len kvs (.inl (g d)) (.val (.bool true))
    simp at hl
    obtain ⟨s', h1⟩ := h d (by simp) kvs s (by omega) (by omega)
    obtain ⟨kvs', s2, h2, h3, h4, h5⟩ := forL_keys fr g ds (putO kvs (.inl (g d)) (.val (.bool true))) s' (fun d hd => h d (by simp [hd])) (by omega)
    rw [Option.bind_eq_some_iff] at h1
    obtain ⟨e1, q1, q2⟩ := h1
    refine ⟨kvs', s2, by simp [forL, q1, q2, h2], by simp; omega, fun S hS => (h4 _ (hS.put _ _)).congr fun x => ?_, fun a => h5 (a.put _ _)⟩
    simp
    constructor
    · rintro ((a | a) | a)
      · exact .inr (.inl a)
      · exact .inl a
      · exact .inr (.inr a)
    · rintro (a | a | a)
      · exact .inl (.inr a)
      · exact .inl (.inl a)
      · exact .inr a
theorem rangeD_nil {a b : Int} (h : b ≤ a) : rangeD a b = [] := by
  have : (b - a).toNat = 0 := by omega
  simp [rangeD, this]
theorem rangeD_cons {a b : Int} (h : a < b) : rangeD a b = .int a :: rangeD (a + 1) b := by
  obtain ⟨n, hn⟩ : ∃ n : Nat, (b - a).toNat = n + 1 := ⟨(b - a).toNat - 1, by omega⟩
  have h2 : (b - (a + 1)).toNat = n := by omega
  simp only [rangeD, hn, h2]
  rw [List.range_succ_eq_map]
  simp
  intro x hx
  omega
@[simp] theorem bitXor_nat (a b : Nat) : Builtin.bitXor (a : Int) (b : Int) = ((a ^^^ b : Nat) : Int) := by
  simpa using Bits.bitXor_pp (x := a) (y := b) (Int.natCast_nonneg _) (Int.natCast_nonneg _)
@[simp] theorem bitOr_nat (a b : Nat) : Builtin.bitOr (a : Int) (b : Int) = ((a ||| b : Nat) : Int) := by
  simpa using Bits.bitOr_pp (x := a) (y := b) (Int.natCast_nonneg _) (Int.natCast_nonneg _)
@[simp] theorem bitAnd_nat (a b : Nat) : Builtin.bitAnd (a : Int) (b : Int) = ((a &&& b : Nat) : Int) := by
  simpa using bitAnd_pp (x := a) (y := b) (Int.natCast_nonneg _) (Int.natCast_nonneg _)
theorem eqv_ss (a b : Str) : PyData.eqv (.str a) (.str b) = decide (a = b) := by
  unfold PyData.eqv
  by_cases h : a = b
  · subst h; simp
  · simp [h]
theorem eqv_ii (a b : Int) : PyData.eqv (.int a) (.int b) = decide (a = b) := by simp [PyData.eqv]; rfl
theorem shs (a : Str) (h : a.cps.all (· < 0x110000) = true) : SeqAt.shaped (.str a) = true := shaped_of (by simpa [fine] using h) (by simp [PyData.depth])
theorem seq_bk {a b : MS} {env e : Pv.Env} (h : a env = some (.bk e)) : mSeq a b env = some (.bk e) := by simp [h]
theorem seq_ct {a b : MS} {env e : Pv.Env} (h : a env = some (.ct e)) : mSeq a b env = some (.ct e) := by simp [h]
theorem seq_ret {a b : MS} {env e : Pv.Env} {o : O} (h : a env = some (.rt o e)) : mSeq a b env = some (.rt o e) := by simp [h]
theorem ifS_t {t : MT} {a b : MS} {env e : Pv.Env} {c : Option Ctl} (h : t env = some (true, e)) (h2 : a e = c) : mIfS t a b env = c := by simp [h, h2]
theorem ifS_f {t : MT} {a b : MS} {env e : Pv.Env} {c : Option Ctl} (h : t env = some (false, e)) (h2 : b e = c) : mIfS t a b env = c := by simp [h, h2]
theorem mDef_rt {n : Nat} {io : List Bool} {m : MS} {args e : Pv.Env} {o : O} (h : m (args ++ List.replicate (n - io.length) .emp) = some (.rt o e)) : mDef n io m args = some (o, maskE io e) := by simp [h]
theorem forL_nx {f : MG} {b : MS} {d : D} {ds : List D} {env e1 e2 : Pv.Env} {c : Option Ctl} (h1 : f d env = some e1) (h2 : b e1 = some (.nx e2)) (h3 : forL f b ds e2 = c) : forL f b (d :: ds) env = c := by simp [forL, h1, h2, h3]
theorem forL_ct {f : MG} {b : MS} {d : D} {ds : List D} {env e1 e2 : Pv.Env} {c : Option Ctl} (h1 : f d env = some e1) (h2 : b e1 = some (.ct e2)) (h3 : forL f b ds e2 = c) : forL f b (d :: ds) env = c := by simp [forL, h1, h2, h3]
theorem forL_bk {f : MG} {b : MS} {d : D} {ds : List D} {env e1 e2 : Pv.Env} (h1 : f d env = some e1) (h2 : b e1 = some (.bk e2)) : forL f b (d :: ds) env = some (.nx e2) := by simp [forL, h1, h2]
theorem forL_rt {f : MG} {b : MS} {d : D} {ds : List D} {env e1 e2 : Pv.Env} {o : O} (h1 : f d env = some e1) (h2 : b e1 = some (.rt o e2)) : forL f b (d :: ds) env = some (.rt o e2) := by simp [forL, h1, h2]
theorem mask_one (e : Pv.Env) : maskE [false] e = [.emp] := by cases e <;> simp
theorem mask_two (e : Pv.Env) : maskE [false, false] e = [.emp, .emp] := by
  match e with
  | [] => simp
  | [_] => simp
  | _ :: _ :: _ => simp
theorem mask_three (e : Pv.Env) : maskE [false, false, false] e = [.emp, .emp, .emp] := by
  match e with
  | [] => simp
  | [_] => simp
  | [_, _] => simp
  | _ :: _ :: _ :: _ => simp
/-- a def that only reads its first argument, and ends -/
theorem mDef1 {n : Nat} {m : MS} {x : Sl} {o : O} {e : Pv.Env} (h : m ([x] ++ List.replicate (n - 1) .emp) = some (.rt o e)) : mDef n [false] m [x] = some (o, [.emp]) := by
  rw [mDef_rt h, mask_one]
theorem mDef2 {n : Nat} {m : MS} {x y : Sl} {o : O} {e : Pv.Env} (h : m ([x, y] ++ List.replicate (n - 2) .emp) = some (.rt o e)) : mDef n [false, false] m [x, y] = some (o, [.emp, .emp]) := by
  rw [mDef_rt h, mask_two]
theorem mDef3 {n : Nat} {m : MS} {x y w : Sl} {o : O} {e : Pv.Env} (h : m ([x, y, w] ++ List.replicate (n - 3) .emp) = some (.rt o e)) : mDef n [false, false, false] m [x, y, w] = some (o, [.emp, .emp, .emp]) := by
  rw [mDef_rt h, mask_three]
theorem mDefB1 {n : Nat} {m : MS} {x x' : Sl} {o : O} {e : Pv.Env} (h : m ([x] ++ List.replicate (n - 1) .emp) = some (.rt o (x' :: e))) : mDef n [true] m [x] = some (o, [x']) := by
  rw [mDef_rt h]; simp
theorem mDefB2 {n : Nat} {m : MS} {x x' y : Sl} {o : O} {e : Pv.Env} (h : m ([x, y] ++ List.replicate (n - 2) .emp) = some (.rt o (x' :: e))) : mDef n [true, false] m [x, y] = some (o, [x', .emp]) := by
  rw [mDef_rt h]; simp [mask_one]
theorem mDefB3 {n : Nat} {m : MS} {x x' y z : Sl} {o : O} {e : Pv.Env} (h : m ([x, y, z] ++ List.replicate (n - 3) .emp) = some (.rt o (x' :: e))) : mDef n [true, false, false] m [x, y, z] = some (o, [x', .emp, .emp]) := by
  rw [mDef_rt h]; simp [mask_two]
/-! ### data with greater numbers that can be shown -/
mutual
def fineW : D → Bool
  | .none => true
  | .bool _ => true
  | .int i => decide (i.natAbs < 10 ^ 60)
  | .str x => x.cps.all (· < 0x110000)
  | .list xs => finesW xs
  | .tuple xs => finesW xs
  | .dict _ => false
def finesW : List D → Bool
  | [] => true
  | x :: xs => fineW x && finesW xs
end
theorem finesW_iff : ∀ {xs : List D}, finesW xs = true ↔ ∀ x ∈ xs, fineW x = true
  | [] => by simp [finesW]
  | x :: xs => by simp [finesW, finesW_iff (xs := xs)]
mutual
theorem fineW_lay : ∀ (d : D), fineW d = true → d.canLay0 = true
  | .none, _ => by simp [PyData.canLay0]
  | .bool _, _ => by simp [PyData.canLay0]
  | .int _, _ => by simp [PyData.canLay0]
  | .str x, h => by simpa [PyData.canLay0, PyData.strOk, fineW] using h
  | .list xs, h => by simp only [PyData.canLay0]; exact finesW_lay xs (by simpa [fineW] using h)
  | .tuple xs, h => by simp only [PyData.canLay0]; exact finesW_lay xs (by simpa [fineW] using h)
  | .dict _, h => by simp [fineW] at h
theorem finesW_lay : ∀ (ds : List D), finesW ds = true → PyData.canLayAll0 ds = true
  | [], _ => by simp [PyData.canLayAll0]
  | d :: ds, h => by
    simp only [finesW, Bool.and_eq_true] at h
    simp only [PyData.canLayAll0, Bool.and_eq_true]
    exact ⟨fineW_lay d h.1, finesW_lay ds h.2⟩
end
mutual
theorem fineW_show : ∀ (d : D), fineW d = true → d.showable = true
  | .none, _ => by simp [PyData.showable]
  | .bool _, _ => by simp [PyData.showable]
  | .int i, h => by
    simp only [fineW, decide_eq_true_eq] at h
    simp only [PyData.showable, decide_eq_true_eq]
    exact Nat.lt_trans (log2_lt (k := 200) (Nat.lt_trans h (by decide)) (by decide)) (by decide)
  | .str x, h => by simp [PyData.showable]
  | .list xs, h => by simp only [PyData.showable]; exact finesW_show xs (by simpa [fineW] using h)
  | .tuple xs, h => by simp only [PyData.showable]; exact finesW_show xs (by simpa [fineW] using h)
  | .dict _, h => by simp [fineW] at h
theorem finesW_show : ∀ (ds : List D), finesW ds = true → PyData.showableAll ds = true
  | [], _ => by simp [PyData.showableAll]
  | d :: ds, h => by
    simp only [finesW, Bool.and_eq_true] at h
    simp only [PyData.showableAll, Bool.and_eq_true]
    exact ⟨fineW_show d h.1, finesW_show ds h.2⟩
end
mutual
theorem fineW_short : ∀ (d : D), fineW d = true → d.leavesShort 61 = true
  | .none, _ => by simp [PyData.leavesShort]
  | .bool _, _ => by simp [PyData.leavesShort]
  | .int i, h => by
    simp only [fineW, decide_eq_true_eq] at h
    simp only [PyData.leavesShort, decide_eq_true_eq]
    have e := int_text_length_le10 (k := 60) (by decide) h
    show (Str.ofString (toString i)).length ≤ 61
    rw [PySem.ofString_length]; exact e
  | .str x, h => by
    simp only [fineW, Array.all_eq_true', decide_eq_true_eq] at h
    simp only [PyData.leavesShort, List.all_eq_true, decide_eq_true_eq]
    exact fun c hc => Nat.lt_trans (h c (by simpa using hc)) (by decide)
  | .list xs, h => by simp only [PyData.leavesShort]; exact finesW_short xs (by simpa [fineW] using h)
  | .tuple xs, h => by simp only [PyData.leavesShort]; exact finesW_short xs (by simpa [fineW] using h)
  | .dict _, h => by simp [fineW] at h
theorem finesW_short : ∀ (ds : List D), finesW ds = true → PyData.leavesShortAll 61 ds = true
  | [], _ => by simp [PyData.leavesShortAll]
  | d :: ds, h => by
    simp only [finesW, Bool.and_eq_true] at h
    simp only [PyData.leavesShortAll, Bool.and_eq_true]
    exact ⟨fineW_short d h.1, finesW_short ds h.2⟩
end
theorem shaped_ofW {d : D} (h : fineW d = true) (hd : d.depth ≤ 64) : SeqAt.shaped d = true := by
  simp only [SeqAt.shaped, Bool.and_eq_true, decide_eq_true_eq]
  exact ⟨fineW_lay d h, hd⟩
theorem reprOk_ofW {d : D} (h : fineW d = true) (hd : d.depth ≤ 64) (hb : d.bulk ≤ 2 ^ 17) : reprOk d = true := by
  simp only [reprOk, Bool.and_eq_true, decide_eq_true_eq]
  refine ⟨⟨shaped_ofW h hd, fineW_show d h⟩, ?_⟩
  have h1 := PyData.shown_le_bulk 61 (by decide) d (fineW_short d h)
  rw [sizeLine_eq]
  omega
theorem eqv_selfW {d : D} (h : fineW d = true) : PyData.eqv d d = true := SeqAt.eqv_refl d (fineW_lay d h)
/-! ### lists of numbers -/
def nD (l : List Nat) : List D := l.map fun x : Nat => PyData.int (x : Int)
def nO (l : List Nat) : List O := l.map fun x : Nat => oi (x : Int)
def InB (l : List Nat) (x : Int) : Prop := ∃ y ∈ l, x = (y : Int)
@[simp] theorem vals_nO (l : List Nat) : vals (nO l) = some (nD l) := by
  unfold nO nD
  induction l with
  | nil => rfl
  | cons a l ih => simp [ih]
theorem mem_nD {d : D} {l : List Nat} : d ∈ nD l ↔ ∃ a ∈ l, d = .int (a : Int) := by
  unfold nD; simp [eq_comm]
@[simp] theorem len_nD (l : List Nat) : (nD l).length = l.length := by simp [nD]
@[simp] theorem len_nO (l : List Nat) : (nO l).length = l.length := by simp [nO]
theorem nO_eq (l : List Nat) : nO l = (nD l).map .val := by simp [nO, nD]
theorem nD_append (a b : List Nat) : nD (a ++ b) = nD a ++ nD b := by simp [nD]
theorem nO_append (a b : List Nat) : nO (a ++ b) = nO a ++ nO b := by simp [nO]
theorem nD_one (a : Nat) : nD [a] = [.int (a : Int)] := rfl
theorem nO_one (a : Nat) : nO [a] = [oi (a : Int)] := rfl
def num : D → Int
  | .int i => i
  | _ => 0
def onD (g : Int → Int) : D → D
  | .int i => .int (g i)
  | _ => .none
theorem onD_nD (g : Int → Int) (h : Nat → Nat) (l : List Nat) (e : ∀ a ∈ l, g a = h a) : (nD l).map (onD g) = nD (l.map h) := by
  unfold nD
  rw [List.map_map, List.map_map]
  exact List.map_congr_left fun a ha => by simp [onD, e a ha]
/-! ### keys -/
theorem getO_mem {kvs : List (Key × O)} {k : Key} : (getO kvs k).isSome = true ↔ ∃ kv ∈ kvs, kv.1 = k := by
  simp [getO, Option.isSome_map, List.find?_isSome]
theorem keys_int {kvs : List (Key × O)} {S : Int → Prop} (h : Has kvs S) (a : AllI kvs) (d : D) : d ∈ kvs.map (fun kv => keyD kv.1) ↔ ∃ x, S x ∧ d = .int x := by
  constructor
  · intro hd
    obtain ⟨kv, h0, rfl⟩ := List.mem_map.mp hd
    obtain ⟨x, hx⟩ := a kv h0
    exact ⟨x, (h x).mp (getO_mem.mpr ⟨kv, h0, hx⟩), by rw [hx]; rfl⟩
  · rintro ⟨x, hx, rfl⟩
    obtain ⟨kv, h0, e⟩ := getO_mem.mp ((h x).mpr hx)
    exact List.mem_map.mpr ⟨kv, h0, by rw [e]; rfl⟩
@[simp] theorem vals_app (xs ys : List D) : vals (xs.map O.val ++ ys.map .val) = some (xs ++ ys) := by rw [← List.map_append]; exact vals_map _
theorem asInts_ints : ∀ l : List Int, asInts (l.map .int) = some l
  | [] => rfl
  | a :: l => by simp [asInts, asInts_ints l]
theorem cut_take (ds : List D) (n : Nat) : cutD ds none (some (n : Int)) = ds.take n := by
  unfold cutD
  rw [HT.sIx_none, HT.sIx_nat]
  simp
theorem cut_drop (ds : List D) (n : Nat) : cutD ds (some (n : Int)) none = ds.drop n := by
  unfold cutD
  rw [HT.sIx_none, HT.sIx_nat]
  by_cases h : n ≤ ds.length
  · rw [Nat.min_eq_left h, List.take_of_length_le (by simp)]
  · rw [Nat.min_eq_right (by omega), List.drop_of_length_le (Nat.le_refl _), List.drop_of_length_le (by omega)]; simp
end Pv

namespace Pv.B1
open PySem PySem.Spec L2 Pv
noncomputable section
def c1_u_law_own_bag : MG := fName 3
def e1_u_law_own_bag : ME := mCall fAbs (mCons (mVar 3) mNil)
def b2_u_law_own_bag : MS := mSet 2 takeF (mBin fMod (mBin fAdd (mBin fAdd (mBin fMul (mVar 2) (mC (.int 48271))) (mBin fMod (mVar 3) (mC (.int 2147483629)))) (mC (.int 7))) (mC (.int 2147483647)))
def m_u_law_own_bag : MS := mSeq (mSet 1 takeF (mComp (mItems (mBin fSlH (mVar 0) (mC (.int 63)))) c1_u_law_own_bag mYes e1_u_law_own_bag takeF [3]))
    (mSeq (mSet 2 takeF (mBin fAdd (mC (.int 2468)) (mCall fLen (mCons (mVar 1) mNil))))
    (mSeq (mFor (mItems (mVar 1)) (fName 3) b2_u_law_own_bag)
    (mRet takeM (mLst (mCons (mUn fRevL (mVar 1)) (mCons (mC (.int 0)) (mCons (mVar 2) mNil)))))))
def F_u_law_own_bag : MF := mDef 4 [false] m_u_law_own_bag
def t1_u_law_draw : MT := mAndT (mTst (mBin fEq (mBin fIx (mVar 0) (mC (.int 1))) (mC (.int 0)))) (mNeAt 0 0)
def b1_u_law_draw : MS := mSeq (mSet 2 takeF (mPopAt 0 0))
    (mStore 0 (mIfE (mTst (mBin fGt (mVar 2) (mBin fPow (mC (.int 10)) (mC (.int 9))))) (mVar 2) (mC (.int 0))) (mC (.int 1)))
def m_u_law_draw : MS := mSeq (mWhile t1_u_law_draw b1_u_law_draw)
    (mSeq (mIfS (mTst (mBin fGt (mBin fIx (mVar 0) (mC (.int 1))) (mC (.int 0))))
    (mSeq (mSet 3 takeF (mBin fMod (mBin fIx (mVar 0) (mC (.int 1))) (mVar 1)))
    (mSeq (mStore 0 (mBin fDiv (mBin fIx (mVar 0) (mC (.int 1))) (mVar 1)) (mC (.int 1)))
    (mRet takeM (mVar 3))))
    mSkip)
    (mSeq (mStore 0 (mBin fMod (mBin fAdd (mBin fMul (mBin fIx (mVar 0) (mC (.int 2))) (mC (.int 48271))) (mC (.int 11))) (mC (.int 2147483647))) (mC (.int 2)))
    (mRet takeM (mBin fMod (mBin fDiv (mBin fMod (mBin fMul (mBin fIx (mVar 0) (mC (.int 2))) (mBin fIx (mVar 0) (mC (.int 2)))) (mC (.int 2147483629))) (mC (.int 7))) (mVar 1)))))
def F_u_law_draw : MF := mDef 4 [true, false] m_u_law_draw
def m_u_law_pick : MS := mRet takeM (mBin fIx (mVar 1) (mUC none [true, false] F_u_law_draw (mCons (mVar 0) (mCons (mCall fLen (mCons (mVar 1) mNil)) mNil))))
def F_u_law_pick : MF := mDef 2 [true, false] m_u_law_pick
def m_u_law_is : MS := mRet takeM (mAndE (mBin fEq (mCall fRepr (mCons (mVar 0) mNil)) (mCall fRepr (mCons (mVar 1) mNil))) (mBin fEq (mVar 0) (mVar 1)))
def F_u_law_is : MF := mDef 2 [false, false] m_u_law_is
def b1_u_law_great : MS := mSet 2 takeF (mBin fAdd (mBin fMul (mVar 2) (mBin fPow (mC (.int 10)) (mC (.int 7)))) (mUC none [true, false] F_u_law_draw (mCons (mVar 0) (mCons (mBin fPow (mC (.int 10)) (mC (.int 7))) mNil))))
def m_u_law_great : MS := mSeq (mSet 2 takeF (mC (.int 0)))
    (mSeq (mFor (mRange1 (mCons (mC (.int 3)) mNil)) (fName 3) b1_u_law_great)
    (mRet takeM (mBin fMod (mVar 2) (mVar 1))))
def F_u_law_great : MF := mDef 4 [true, false] m_u_law_great

end
/-- the bag: cells, the rest of a cell, the mixed number -/
def bagL (cs : List Int) (a m : Int) : List O := [.own (cs.map oi), oi a, oi m]
structure BagOk (bl : List O) : Prop where
  ex : ∃ cs a m, bl = bagL cs a m ∧ (∀ c ∈ cs, (0 : Int) ≤ c) ∧ 0 ≤ a ∧ 0 ≤ m ∧ m < 2147483647
theorem eqv_nil (ds : List D) : PyData.eqv (.list ds) (.list []) = ds.isEmpty := by
  cases ds <;> simp [PyData.eqv, PyData.eqvAll]
theorem draw_t (cs : List Int) (a m : Int) (x y z : Sl) : t1_u_law_draw [.wr (.own (bagL cs a m)), x, y, z] = some (decide (a = 0) && !cs.isEmpty, [.wr (.own (bagL cs a m)), x, y, z]) := by
  by_cases h : a = 0
  · simp [t1_u_law_draw, bagL, atI, ixN, mNeAt, h, vals_ints_oi, eqv_nil]
  · simp [t1_u_law_draw, bagL, atI, ixN, mNeAt, h, vals_ints_oi, eqv_nil]
theorem draw_b (cs : List Int) (c m : Int) (x y z : Sl) : b1_u_law_draw [.wr (.own (bagL (cs ++ [c]) 0 m)), x, y, z] = some (.nx [.wr (.own (bagL cs (if 1000000000 < c then c else 0) m)), x, vi c, z]) := by
  by_cases h : 1000000000 < c
  · simp [b1_u_law_draw, bagL, atI, ixN, mPopAt, lPop, h, powOk]
  · simp [b1_u_law_draw, bagL, atI, ixN, mPopAt, lPop, h, powOk]
theorem draw_w : ∀ (k : Nat) (cs : List Int) (a m : Int) (x y z : Sl), cs.length = k → (∀ c ∈ cs, (0 : Int) ≤ c) → 0 ≤ a → ∃ cs' a' y', (∀ c ∈ cs', (0 : Int) ≤ c) ∧ 0 ≤ a' ∧
    mWhile t1_u_law_draw b1_u_law_draw [.wr (.own (bagL cs a m)), x, y, z] = some (.nx [.wr (.own (bagL cs' a' m)), x, y', z]) := by
  intro k
  induction k with
  | zero =>
    intro cs a m x y z hl hc ha
    obtain rfl := List.length_eq_zero_iff.mp hl
    exact ⟨[], a, y, by simp, ha, mWhile_end (by rw [draw_t]; simp)⟩
  | succ k ih =>
    intro cs a m x y z hl hc ha
    by_cases h : a = 0
    · subst h
      have hne : cs ≠ [] := by intro e; subst e; simp at hl
      obtain ⟨cs', c, rfl⟩ : ∃ cs' c, cs = cs' ++ [c] := ⟨cs.dropLast, cs.getLast hne, (List.dropLast_concat_getLast hne).symm⟩
      have hc0 : 0 ≤ c := hc c (by simp)
      obtain ⟨cs2, a2, y2, p1, p2, p3⟩ := ih cs' (if 1000000000 < c then c else 0) m x (vi c) z (by simpa using hl) (fun d hd => hc d (by simp [hd])) (by split <;> omega)
      exact ⟨cs2, a2, y2, p1, p2, mWhile_go (by rw [draw_t]; simp) (draw_b cs' c m x y z) p3⟩
    · exact ⟨cs, a, y, hc, ha, mWhile_end (by rw [draw_t]; simp [h])⟩
theorem draw_spec {bl : List O} (hb : BagOk bl) {b : Int} (h0 : 0 < b) (h1 : b.natAbs < 2 ^ 200) : ∃ r bl', BagOk bl' ∧ 0 ≤ r ∧ r < b ∧ F_u_law_draw [.wr (.own bl), vi b] = some (oi r, [.wr (.own bl'), .emp]) := by
  obtain ⟨cs, a, m, rfl, hc, ha, hm, hm2⟩ := hb.ex
  obtain ⟨cs', a', y', p1, p2, p3⟩ := draw_w cs.length cs a m (vi b) .emp .emp rfl hc ha
  by_cases h : 0 < a'
  · refine ⟨a' % b, bagL cs' (a' / b) m, ⟨cs', a' / b, m, rfl, p1, Int.ediv_nonneg ha (by omega) |> fun _ => Int.ediv_nonneg p2 (by omega), hm, hm2⟩, Int.emod_nonneg _ (by omega), Int.emod_lt_of_pos _ h0, ?_⟩
    simp [F_u_law_draw, m_u_law_draw, p3]
    simp [bagL, atI, ixN, h, h0, h1]
  · obtain rfl : a' = 0 := by omega
    have hq : 0 ≤ (m * 48271 + 11) % 2147483647 := Int.emod_nonneg _ (by decide)
    have hq2 : (m * 48271 + 11) % 2147483647 < 2147483647 := Int.emod_lt_of_pos _ (by decide)
    generalize hm' : (m * 48271 + 11) % 2147483647 = m' at hq hq2
    refine ⟨m' * m' % 2147483629 / 7 % b, bagL cs' 0 m', ⟨cs', 0, m', rfl, p1, by omega, hq, hq2⟩, Int.emod_nonneg _ (by omega), Int.emod_lt_of_pos _ h0, ?_⟩
    have z1 : m.natAbs < 2 ^ 200 := by omega
    have z2 : m'.natAbs < 2 ^ 200 := by omega
    simp [F_u_law_draw, m_u_law_draw, p3]
    simp [bagL, atI, ixN, h0, h1, z1, z2, hm']
theorem pick_spec {bl : List O} (hb : BagOk bl) {ds : List D} (h0 : ds ≠ []) (h1 : ds.length < 1000) : ∃ d bl', BagOk bl' ∧ d ∈ ds ∧ F_u_law_pick [.wr (.own bl), vd (.list ds)] = some (.val d, [.wr (.own bl'), .emp]) := by
  have hl : 0 < ds.length := List.length_pos_iff.mpr h0
  obtain ⟨r, bl', ok, r0, r1, hd⟩ := draw_spec hb (b := ds.length) (by omega) (by omega)
  have hlt : r.toNat < ds.length := by omega
  refine ⟨ds[r.toNat], bl', ok, List.getElem_mem _, ?_⟩
  simp [F_u_law_pick, m_u_law_pick, hd, atI, ixN, r0, r1, hlt]
theorem great_spec {bl : List O} (hb : BagOk bl) {b : Int} (h0 : 0 < b) (h1 : b.natAbs < 2 ^ 200) : ∃ r bl', BagOk bl' ∧ 0 ≤ r ∧ r < b ∧ F_u_law_great [.wr (.own bl), vi b] = some (oi r, [.wr (.own bl'), .emp]) := by
  obtain ⟨e, he, hf⟩ := forL_ind (f := fName 3) (body := b1_u_law_great) (fun i env => ∃ bl x y, env = [.wr (.own bl), vi b, vi x, y] ∧ BagOk bl ∧ 0 ≤ x ∧ ((i = 3 ∧ x = 0) ∨ (i = 2 ∧ x < 10 ^ 7) ∨ (i = 1 ∧ x < 10 ^ 14) ∨ (i = 0 ∧ x < 10 ^ 21))) (by
    rintro i d env ⟨bl, x, y, rfl, ok, x0, x1⟩
    obtain ⟨r, bl', ok', r0, r1, hd⟩ := draw_spec ok (b := 10000000) (by decide) (by decide)
    have z : x.natAbs < 2 ^ 200 := by omega
    exact ⟨_, _, by simp; exact rfl, by simp [b1_u_law_great, powOk, z, hd] <;> exact rfl, bl', x * 10000000 + r, vd d, rfl, ok', by omega, by omega⟩) (rangeD 0 3) [.wr (.own bl), vi b, vi 0, .emp] ⟨bl, 0, .emp, rfl, hb, by decide, by simp⟩
  obtain ⟨bl', x, y, rfl, ok, x0, x1⟩ := he
  refine ⟨x % b, bl', ok, Int.emod_nonneg _ (by omega), Int.emod_lt_of_pos _ h0, ?_⟩
  simp [F_u_law_great, m_u_law_great, small62, hf, h0]
theorem is_fn {d : D} (h : fine d = true) (hd : d.depth ≤ 64) (hb : d.bulk ≤ 2 ^ 20) : F_u_law_is [vd d, vd d] = some (.val (.bool true), [.emp, .emp]) := by
  have r := reprOk_of h hd hb
  have e := eqv_self h
  have s := shaped_of h hd
  cases d with
  | int i => simp [F_u_law_is, m_u_law_is, r]
  | str x => simp [F_u_law_is, m_u_law_is, r]
  | _ => simp [F_u_law_is, m_u_law_is, r, s, e]
theorem is_fnW {d : D} (h : fineW d = true) (hd : d.depth ≤ 64) (hb : d.bulk ≤ 2 ^ 17) : F_u_law_is [vd d, vd d] = some (.val (.bool true), [.emp, .emp]) := by
  have r := reprOk_ofW h hd hb
  have e := eqv_selfW h
  have s := shaped_ofW h hd
  cases d with
  | int i => simp [F_u_law_is, m_u_law_is, r]
  | str x => simp [F_u_law_is, m_u_law_is, r]
  | _ => simp [F_u_law_is, m_u_law_is, r, s, e]
theorem cut_all {ds : List D} {n : Nat} (h : ds.length ≤ n) : cutD ds none (some (n : Int)) = ds := by
  unfold cutD
  rw [HT.sIx_none, HT.sIx_nat, Nat.min_eq_right h]
  simp
def absG : D → D
  | .int i => .int (if i < 0 then -i else i)
  | _ => .none
theorem own_spec (ns : List Int) (h : ns.length ≤ 63) : ∃ bl, BagOk bl ∧ F_u_law_own_bag [vd (.list (ns.map .int))] = some (.own bl, [.emp]) := by
  have c63 := cut_all (ds := ns.map .int) (n := 63) (by simpa using h)
  have lc := lcL_map (f := c1_u_law_own_bag) (tt := mYes) (te := e1_u_law_own_bag) (tk := takeF) (vs := [3]) (env := [vd (.list (ns.map .int)), .emp, .emp, .emp]) absG (ns.map .int) [] (by
    intro d hd
    simp at hd
    obtain ⟨i, hi, rfl⟩ := hd
    refine ⟨_, _, _, _, by simp [c1_u_law_own_bag]; exact rfl, rfl, by simp [e1_u_law_own_bag]; exact ⟨rfl, rfl⟩, by simp [absG]; exact rfl, by simp [wipeE]⟩) (by simp; omega)
  have ex : (ns.map PyData.int).map absG = (ns.map fun i => if i < 0 then -i else i).map .int := by simp [Function.comp_def, absG]
  rw [ex] at lc
  obtain ⟨cs, hcs⟩ : ∃ cs, cs = ns.map fun i : Int => if i < 0 then -i else i := ⟨_, rfl⟩
  rw [← hcs] at lc
  have c0 : ∀ c ∈ cs, (0 : Int) ≤ c := by
    rw [hcs]; simp; intro a ha; split <;> omega
  have cl : cs.length ≤ 63 := by rw [hcs]; simpa using h
  obtain ⟨e, he, hf⟩ := forL_pre (f := fName 3) (body := b2_u_law_own_bag) (fun pre env => ∃ m y, env = [vd (.list (ns.map .int)), vd (.list (cs.map .int)), vi m, y] ∧ 0 ≤ m ∧ m < 2147483647) (cs.map .int) (by
    rintro pre d post env hall ⟨m, y, rfl, m0, m1⟩
    have : d ∈ cs.map .int := by rw [hall]; simp
    simp at this
    obtain ⟨c, hc, rfl⟩ := this
    have z : m.natAbs < 2 ^ 200 := by omega
    refine ⟨_, _, by simp; exact rfl, by simp [b2_u_law_own_bag, z]; exact rfl, _, vi c, rfl, Int.emod_nonneg _ (by decide), Int.emod_lt_of_pos _ (by decide)⟩) (cs.map .int) [] [vd (.list (ns.map .int)), vd (.list (cs.map .int)), vi (2468 + cs.length), .emp] rfl ⟨2468 + cs.length, .emp, rfl, by omega, by omega⟩
  obtain ⟨m, y, rfl, m0, m1⟩ := he
  refine ⟨bagL cs.reverse 0 m, ⟨cs.reverse, 0, m, rfl, fun c hc => c0 c (by simpa using hc), by decide, m0, m1⟩, ?_⟩
  simp at lc c63
  simp [F_u_law_own_bag, m_u_law_own_bag, mComp, fSlH, cutO, itemsL, c63, itemsO, isClean, wipeE, restE, lc, hf, fRevL, bagL]
theorem atI_zero {α : Type} (x : α) (xs : List α) : atI (x :: xs) 0 = some x := by simp [atI, ixN]
theorem atI_one {α : Type} (x y : α) (xs : List α) : atI (x :: y :: xs) 1 = some y := by
  have h : (1 : Int) < (xs.length : Int) + 1 + 1 := by omega
  simp [atI, ixN, h]

end Pv.B1

namespace Pv
open PySem PySem.Spec PyProof.Rows L2

/-! ### comprehensions over one name -/
theorem wipe1 {env : Pv.Env} {v : Nat} {x : Sl} (hv : env[v]? = some .emp) : wipeE (env.set v x) [v] = env := by
  simp only [wipeE]
  rw [List.set_set]
  exact List.ext_getElem? fun j => by
    by_cases e : v = j
    · subst e; rw [List.getElem?_set_self (List.getElem?_eq_some_iff.mp hv).1, hv]
    · rw [List.getElem?_set_ne e]
theorem wipe0 {env : Pv.Env} {v : Nat} (hv : env[v]? = some .emp) : wipeE env [v] = env := by
  have h := wipe1 (x := .emp) hv
  simp only [wipeE] at h ⊢
  rw [List.set_set] at h
  exact h
theorem lc1f {tt : MT} {te : ME} {v : Nat} {env : Pv.Env} {ds : List D} (b : D → Bool) (g : D → D) (hv : env[v]? = some .emp) (ht : ∀ d ∈ ds, tt (env.set v (vd d)) = some (b d, env.set v (vd d)))
    (he : ∀ d ∈ ds, b d = true → te (env.set v (vd d)) = some (.tmp (.val (g d)), env.set v (vd d)) ∨ te (env.set v (vd d)) = some (.slot v, env.set v (vd d)) ∧ g d = d) (hl : ds.length ≤ 16777216) :
    lcL (fName v) tt te takeF [v] ds [] env = some (((ds.filter b).map g).map .val, env) := by
  have hv' := (List.getElem?_eq_some_iff.mp hv).1
  have key : ∀ (es : List D) (acc : List O), (∀ d ∈ es, d ∈ ds) → acc.length + es.length ≤ 16777216 → lcL (fName v) tt te takeF [v] es acc env = some (acc ++ ((es.filter b).map g).map .val, env) := by
    intro es
    induction es with
    | nil => intro acc _ _; simp [lcL]
    | cons d es ih =>
      intro acc hm hz
      simp at hz
      have h1 := ht d (hm d (by simp))
      cases hb : b d with
      | false =>
        have q := ih acc (fun x hx => hm x (by simp [hx])) (by omega)
        simp only [lcL, fName, hv', if_true, Option.bind_some, h1, hb]
        simp [wipe1 hv, q, List.filter_cons, hb]
      | true =>
        have q := ih (acc ++ [.val (g d)]) (fun x hx => hm x (by simp [hx])) (by simp; omega)
        have hz' : acc.length < 16777216 := by omega
        rcases he d (hm d (by simp)) hb with h2 | ⟨h2, h3⟩
        · simp only [lcL, fName, hv', if_true, Option.bind_some, h1, hb, h2]
          simp [wipe1 hv, q, List.filter_cons, hb, hz']
        · simp only [lcL, fName, hv', if_true, Option.bind_some, h1, hb, h2]
          have e : (env.set v (vd d))[v]? = some (vd d) := List.getElem?_set_self hv'
          rw [h3] at q
          simp [e, wipe1 hv, q, List.filter_cons, hb, hz', h3]
  have k := key ds [] (fun _ h => h) (by simpa using hl)
  simpa using k
/-- a slot that holds frozen data, or nothing -/
def Clean (env : Pv.Env) (v : Nat) : Prop := env[v]? = some .emp ∨ ∃ d, env[v]? = some (vd d)
theorem Clean.lt {env : Pv.Env} {v : Nat} (h : Clean env v) : v < env.length := by
  rcases h with h | ⟨d, h⟩ <;> exact (List.getElem?_eq_some_iff.mp h).1
theorem Clean.is {env : Pv.Env} {v : Nat} (h : Clean env v) : isClean (env[v]?) = true := by
  rcases h with h | ⟨d, h⟩ <;> simp [h, isClean]
theorem Clean.back {env : Pv.Env} {v : Nat} (h : Clean env v) : (env.set v .emp).set v ((env[v]?).getD .emp) = env := by
  rw [List.set_set]
  exact List.ext_getElem? fun j => by
    by_cases e : v = j
    · subst e
      rw [List.getElem?_set_self h.lt]
      rcases h with h | ⟨d, h⟩ <;> simp [h]
    · rw [List.getElem?_set_ne e]
theorem comp1f {src : MI} {tt : MT} {te : ME} {v : Nat} {env : Pv.Env} {ds : List D} (b : D → Bool) (g : D → D) (hs : src env = some (ds, env)) (hv : Clean env v) (ht : ∀ d ∈ ds, tt (env.set v (vd d)) = some (b d, env.set v (vd d)))
    (he : ∀ d ∈ ds, b d = true → te (env.set v (vd d)) = some (.tmp (.val (g d)), env.set v (vd d)) ∨ te (env.set v (vd d)) = some (.slot v, env.set v (vd d)) ∧ g d = d) (hl : ds.length ≤ 16777216) :
    mComp src (fName v) tt te takeF [v] env = some (.tmp (.own (((ds.filter b).map g).map .val)), env) := by
  have k := lc1f (tt := tt) (te := te) (v := v) (env := env.set v .emp) (ds := ds) b g (List.getElem?_set_self hv.lt) (by simpa only [List.set_set] using ht) (by simpa only [List.set_set] using he) hl
  simp [mComp, hs, hv.is, wipeE, k, restE, hv.back]
theorem comp1 {src : MI} {te : ME} {v : Nat} {env : Pv.Env} {ds : List D} (g : D → D) (hs : src env = some (ds, env)) (hv : Clean env v)
    (he : ∀ d ∈ ds, te (env.set v (vd d)) = some (.tmp (.val (g d)), env.set v (vd d))) (hl : ds.length ≤ 16777216) :
    mComp src (fName v) mYes te takeF [v] env = some (.tmp (.own ((ds.map g).map .val)), env) := by
  have := comp1f (tt := mYes) (fun _ => true) g hs hv (fun d _ => rfl) (fun d hd _ => .inl (he d hd)) hl
  rw [this, List.filter_eq_self.mpr (by simp)]

theorem fAdd_tt {xs ys : List D} (h : xs.length + ys.length ≤ 16777216) : fAdd [.val (.tuple xs), .val (.tuple ys)] = some (.val (.tuple (xs ++ ys))) := by simp [h]
theorem fAdd_lo {xs : List D} {os : List O} {ys : List D} (h : vals os = some ys) (h2 : xs.length + ys.length ≤ 16777216) : fAdd [.val (.list xs), .own os] = some (.own ((xs ++ ys).map .val)) := by
  show (itemsL (.val (.list xs))).bind (fun a => (itemsL (.own os)).bind fun b => if a.length + b.length ≤ sizeLine then some (O.own ((a ++ b).map .val)) else none) = _
  have e1 : itemsL (.val (.list xs)) = some xs := rfl
  have e2 : itemsL (.own os) = some ys := h
  rw [e1, e2, Option.bind_some, Option.bind_some, if_pos (by rw [sizeLine_eq]; exact h2)]
theorem add_comps {C1 C2 : ME} {env : Pv.Env} {xs ys : List D} (h1 : C1 env = some (.tmp (.own (xs.map .val)), env)) (h2 : C2 env = some (.tmp (.own (ys.map .val)), env)) (hl : xs.length + ys.length ≤ 16777216) : mBin fAdd C1 C2 env = some (.tmp (.own ((xs ++ ys).map .val)), env) := by
  simp [h1, h2, hl]
theorem set_ownF {m : ME} {env : Pv.Env} {i : Nat} {xs : List D} (h : m env = some (.tmp (.own (xs.map .val)), env)) (hi : i < env.length) : mSet i takeF m env = some (.nx (env.set i (vd (.list xs)))) := by
  simp [h, hi]
theorem cut_mem {ds : List D} {lo hi : Option Int} {d : D} (h : d ∈ cutD ds lo hi) : d ∈ ds := by
  unfold cutD at h
  exact List.mem_of_mem_drop (List.mem_of_mem_take h)
theorem cut_len {ds : List D} {lo hi : Option Int} : (cutD ds lo hi).length ≤ ds.length := by
  unfold cutD
  rw [List.length_take, List.length_drop]
  omega
theorem cut_split (ds : List D) (n : Nat) : cutD ds none (some (n : Int)) ++ cutD ds (some (n : Int)) none = ds := by
  rw [cut_take, cut_drop]; exact List.take_append_drop n ds
theorem split_map {g : D → D} {ds : List D} (n : Nat) : (cutD ds none (some (n : Int))).map g ++ (cutD ds (some (n : Int)) none).map g = ds.map g := by
  rw [← List.map_append, cut_split]
theorem split_len {ds : List D} (n : Nat) : (cutD ds none (some (n : Int))).length + (cutD ds (some (n : Int)) none).length = ds.length := by
  rw [← List.length_append, cut_split]
def Rt (c : Option Ctl) : Prop := ∃ e, c = some (.rt (.val (.bool true)) e)
theorem seq_rt {a b : MS} {env e : Pv.Env} (h : a env = some (.nx e)) (h2 : Rt (b e)) : Rt (mSeq a b env) := by
  obtain ⟨e2, h2⟩ := h2
  exact ⟨e2, by simp [h, h2]⟩
theorem atI_zero {α : Type} (x : α) (xs : List α) : atI (x :: xs) 0 = some x := by simp [atI, ixN]
theorem atI_one {α : Type} (x y : α) (xs : List α) : atI (x :: y :: xs) 1 = some y := by
  have h : (1 : Int) < (xs.length : Int) + 1 + 1 := by omega
  simp [atI, ixN, h]
end Pv

namespace K37
open PySem PySem.Spec PyProof.Rows L2 Pv
noncomputable section
/-! ### the defs -/
def top (i : Nat) : Stmt := PySem.Challenge.pw_firstthatfits_k37_whole_numbers_taken.main.body.getD i (.Pass ⟨0, 0, 0, 0⟩)
def t1_figures_row : MT := mTst (mBin fGt (mVar 0) (mC (.int 0)))
def b1_figures_row : MS := mSeq (mExpr (mMeth 1 lAppend (mCons (mBin fMod (mVar 0) (mC (.int 2))) mNil)))
    (mSet 0 takeF (mBin fDiv (mVar 0) (mC (.int 2))))
def m_figures_row : MS := mSeq (mSet 1 takeV (mLst mNil))
    (mSeq (mWhile t1_figures_row b1_figures_row)
    (mRet takeM (mVar 1)))
def F_figures_row : MF := mDef 2 [false] m_figures_row
def b1_steps_item : MS := mSet 1 takeF (mBin fAdd (mBin fMul (mC (.int 3)) (mVar 1)) (mVar 2))
def m_steps_item : MS := mSeq (mSet 1 takeF (mC (.int 0)))
    (mSeq (mFor (mRev (mUC none [false] F_figures_row (mCons (mVar 0) mNil))) (fName 2) b1_steps_item)
    (mRet takeM (mVar 1)))
def F_steps_item : MF := mDef 3 [false] m_steps_item
def t1_steps_place : MT := mTst (mBin fGt (mVar 0) (mC (.int 0)))
def b1_steps_place : MS := mSeq (mIfS (mTst (mBin fEq (mBin fMod (mVar 0) (mC (.int 3))) (mC (.int 2))))
    (mRet takeM (mC .none))
    mSkip)
    (mPar3 1 2 0 takeF (mCons (mBin fAdd (mVar 1) (mBin fMul (mBin fMod (mVar 0) (mC (.int 3))) (mVar 2))) (mCons (mBin fMul (mC (.int 2)) (mVar 2)) (mCons (mBin fDiv (mVar 0) (mC (.int 3))) mNil))))
def m_steps_place : MS := mSeq (mUnp (fTup 2 (fCons (fName 1) (fCons (fName 2) fNil))) (mTup (mCons (mC (.int 0)) (mCons (mC (.int 1)) mNil))))
    (mSeq (mWhile t1_steps_place b1_steps_place)
    (mRet takeM (mVar 1)))
def F_steps_place : MF := mDef 3 [false] m_steps_place
def c1_u_law_own_bag : MG := fName 3
def e1_u_law_own_bag : ME := mCall fAbs (mCons (mVar 3) mNil)
def b2_u_law_own_bag : MS := mSet 2 takeF (mBin fMod (mBin fAdd (mBin fAdd (mBin fMul (mVar 2) (mC (.int 48271))) (mBin fMod (mVar 3) (mC (.int 2147483629)))) (mC (.int 7))) (mC (.int 2147483647)))
def m_u_law_own_bag : MS := mSeq (mSet 1 takeF (mComp (mItems (mBin fSlH (mVar 0) (mC (.int 63)))) c1_u_law_own_bag mYes e1_u_law_own_bag takeF [3]))
    (mSeq (mSet 2 takeF (mBin fAdd (mC (.int 2468)) (mCall fLen (mCons (mVar 1) mNil))))
    (mSeq (mFor (mItems (mVar 1)) (fName 3) b2_u_law_own_bag)
    (mRet takeM (mLst (mCons (mUn fRevL (mVar 1)) (mCons (mC (.int 0)) (mCons (mVar 2) mNil)))))))
def F_u_law_own_bag : MF := mDef 4 [false] m_u_law_own_bag
def t1_u_law_draw : MT := mAndT (mTst (mBin fEq (mBin fIx (mVar 0) (mC (.int 1))) (mC (.int 0)))) (mNeAt 0 0)
def b1_u_law_draw : MS := mSeq (mSet 2 takeF (mPopAt 0 0))
    (mStore 0 (mIfE (mTst (mBin fGt (mVar 2) (mBin fPow (mC (.int 10)) (mC (.int 9))))) (mVar 2) (mC (.int 0))) (mC (.int 1)))
def m_u_law_draw : MS := mSeq (mWhile t1_u_law_draw b1_u_law_draw)
    (mSeq (mIfS (mTst (mBin fGt (mBin fIx (mVar 0) (mC (.int 1))) (mC (.int 0))))
    (mSeq (mSet 3 takeF (mBin fMod (mBin fIx (mVar 0) (mC (.int 1))) (mVar 1)))
    (mSeq (mStore 0 (mBin fDiv (mBin fIx (mVar 0) (mC (.int 1))) (mVar 1)) (mC (.int 1)))
    (mRet takeM (mVar 3))))
    mSkip)
    (mSeq (mStore 0 (mBin fMod (mBin fAdd (mBin fMul (mBin fIx (mVar 0) (mC (.int 2))) (mC (.int 48271))) (mC (.int 11))) (mC (.int 2147483647))) (mC (.int 2)))
    (mRet takeM (mBin fMod (mBin fDiv (mBin fMod (mBin fMul (mBin fIx (mVar 0) (mC (.int 2))) (mBin fIx (mVar 0) (mC (.int 2)))) (mC (.int 2147483629))) (mC (.int 7))) (mVar 1)))))
def F_u_law_draw : MF := mDef 4 [true, false] m_u_law_draw
def m_u_law_pick : MS := mRet takeM (mBin fIx (mVar 1) (mUC none [true, false] F_u_law_draw (mCons (mVar 0) (mCons (mCall fLen (mCons (mVar 1) mNil)) mNil))))
def F_u_law_pick : MF := mDef 2 [true, false] m_u_law_pick
def m_u_law_is : MS := mRet takeM (mAndE (mBin fEq (mCall fRepr (mCons (mVar 0) mNil)) (mCall fRepr (mCons (mVar 1) mNil))) (mBin fEq (mVar 0) (mVar 1)))
def F_u_law_is : MF := mDef 2 [false, false] m_u_law_is
def c2_u_law_going : MG := fName 9
def e2_u_law_going : ME := mBin fSub (mBin fMul (mC (.int 2)) (mVar 5)) (mVar 9)
def c3_u_law_going : MG := fName 9
def e3_u_law_going : ME := mBin fAdd (mVar 9) (mVar 5)
def c4_u_law_going : MG := fName 9
def e4_u_law_going : ME := mBin fXor (mVar 9) (mVar 5)
def b5_u_law_going : MS := mStore 3 (mC (.bool true)) (mBin fXor (mVar 7) (mVar 5))
def b6_u_law_going : MS := mStore 3 (mC (.bool true)) (mVar 8)
def b1_u_law_going : MS := mSeq (mIfS (mTst (mBin fEq (mCall fLen (mCons (mVar 2) mNil)) (mVar 0)))
    mBrk
    mSkip)
    (mSeq (mIfS (mTst (mBin fIn (mVar 5) (mVar 3)))
    mCnt
    mSkip)
    (mSeq (mIfS (mTst (mBin fEq (mVar 1) (mC (.str "steps"))))
    (mSet 6 takeF (mLockE 2 (mComp (mItems (mVar 2)) c2_u_law_going mYes e2_u_law_going takeF [9])))
    (mIfS (mTst (mBin fIn (mVar 1) (mLst (mCons (mC (.str "once")) (mCons (mC (.str "twice")) mNil)))))
    (mSet 6 takeF (mBin fAdd (mLockE 2 (mComp (mItems (mVar 2)) c3_u_law_going mYes e3_u_law_going takeF [9])) (mIfE (mTst (mBin fEq (mVar 1) (mC (.str "twice")))) (mLst (mCons (mBin fMul (mC (.int 2)) (mVar 5)) mNil)) (mLst mNil))))
    (mSeq (mSet 6 takeF (mLockE 2 (mComp (mItems (mVar 2)) c4_u_law_going mYes e4_u_law_going takeF [9])))
    (mSeq (mFor (mItems (mIfE (mTst (mBin fEq (mVar 1) (mC (.str "fours")))) (mVar 4) (mLst mNil))) (fName 7) b5_u_law_going)
    (mSet 4 takeF (mBin fAdd (mVar 4) (mVar 6)))))))
    (mSeq (mFor (mItems (mVar 6)) (fName 8) b6_u_law_going)
    (mExpr (mMeth 2 lAppend (mCons (mVar 5) mNil))))))
def m_u_law_going : MS := mSeq (mParL [2, 3, 4] [takeV, takeV, takeF] (mCons (mLst mNil) (mCons mDic (mCons (mLst mNil) mNil))))
    (mSeq (mFor (mRange2 (mCons (mIfE (mTst (mBin fEq (mVar 1) (mC (.str "steps")))) (mC (.int 0)) (mC (.int 1))) (mCons (mC (.int 9000)) mNil))) (fName 5) b1_u_law_going)
    (mRet takeM (mCall fTuple (mCons (mVar 2) mNil))))
def F_u_law_going : MF := mDef 10 [false, false] m_u_law_going
def c1_steps_free : MG := fName 1
def e1_steps_free : ME := mUC none [false] F_steps_item (mCons (mVar 1) mNil)
def m_steps_free : MS := mRet takeM (mCall fTuple (mCons (mComp (mRange1 (mCons (mVar 0) mNil)) c1_steps_free mYes e1_steps_free takeF [1]) mNil))
def F_steps_free : MF := mDef 2 [false] m_steps_free
def c1_sums_free : MG := fName 2
def e1_sums_free : ME := mBin fAdd (mBin fMul (mC (.int 2)) (mVar 2)) (mC (.int 1))
def c2_sums_free : MG := fName 2
def e2_sums_free : ME := mBin fAdd (mBin fMul (mC (.int 3)) (mVar 2)) (mC (.int 1))
def m_sums_free : MS := mSeq (mIfS (mTru (mVar 1))
    (mRet takeM (mCall fTuple (mCons (mComp (mRange1 (mCons (mVar 0) mNil)) c1_sums_free mYes e1_sums_free takeF [2]) mNil)))
    mSkip)
    (mRet takeM (mCall fTuple (mCons (mBin fAdd (mBin fSlH (mLst (mCons (mC (.int 1)) (mCons (mC (.int 2)) mNil))) (mVar 0)) (mComp (mRange2 (mCons (mC (.int 1)) (mCons (mBin fSub (mVar 0) (mC (.int 1))) mNil))) c2_sums_free mYes e2_sums_free takeF [2])) mNil)))
def F_sums_free : MF := mDef 3 [false, false] m_sums_free
def t1_carries_free : MT := mTst (mBin fLt (mCall fLen (mCons (mVar 1) mNil)) (mVar 0))
def b1_carries_free : MS := mSeq (mIfS (mTst (mBin fEq (mBin fMod (mCall fSum (mCons (mUC none [false] F_figures_row (mCons (mVar 2) mNil)) mNil)) (mC (.int 2))) (mC (.int 1))))
    (mExpr (mMeth 1 lAppend (mCons (mVar 2) mNil)))
    mSkip)
    (mSet 2 takeF (mBin fAdd (mVar 2) (mC (.int 1))))
def m_carries_free : MS := mSeq (mParL [1, 2] [takeV, takeF] (mCons (mLst mNil) (mCons (mC (.int 1)) mNil)))
    (mSeq (mWhile t1_carries_free b1_carries_free)
    (mRet takeM (mCall fTuple (mCons (mVar 1) mNil))))
def F_carries_free : MF := mDef 3 [false] m_carries_free
def b2_fours_free : MS := mStore 3 (mC (.bool true)) (mBin fXor (mVar 5) (mVar 4))
def b3_fours_free : MS := mSeq (mStore 2 (mC (.bool true)) (mBin fXor (mVar 6) (mVar 4)))
    (mStore 3 (mC (.bool true)) (mBin fXor (mVar 6) (mVar 4)))
def t1_fours_free : MT := mTst (mBin fLt (mCall fLen (mCons (mVar 1) mNil)) (mVar 0))
def b1_fours_free : MS := mSeq (mSet 4 takeF (mBin fAdd (mVar 4) (mC (.int 1))))
    (mIfS (mTst (mBin fNotIn (mVar 4) (mVar 3)))
    (mSeq (mFor (mItems (mCall fListA (mCons (mVar 2) mNil))) (fName 5) b2_fours_free)
    (mSeq (mLock 1 (mFor (mItems (mVar 1)) (fName 6) b3_fours_free))
    (mSeq (mStore 3 (mC (.bool true)) (mVar 4))
    (mExpr (mMeth 1 lAppend (mCons (mVar 4) mNil))))))
    mSkip)
def m_fours_free : MS := mSeq (mParL [1, 2, 3, 4] [takeV, takeV, takeV, takeF] (mCons (mLst mNil) (mCons mDic (mCons mDic (mCons (mC (.int 0)) mNil)))))
    (mSeq (mWhile t1_fours_free b1_fours_free)
    (mRet takeM (mCall fTuple (mCons (mVar 1) mNil))))
def F_fours_free : MF := mDef 7 [false] m_fours_free
def m_u_law_row : MS := mSeq (mIfS (mTst (mBin fEq (mVar 0) (mC (.str "steps"))))
    (mRet takeM (mIfE (mTru (mVar 2)) (mUC (some [0]) [false] F_steps_free (mApp 0 1 mNil (mCons (mVar 1) mNil))) (mUC none [false] F_steps_free (mCons (mVar 1) mNil))))
    mSkip)
    (mSeq (mIfS (mTst (mBin fEq (mVar 0) (mC (.str "carries"))))
    (mRet takeM (mIfE (mTru (mVar 2)) (mUC (some [0]) [false] F_carries_free (mApp 0 1 mNil (mCons (mVar 1) mNil))) (mUC none [false] F_carries_free (mCons (mVar 1) mNil))))
    mSkip)
    (mSeq (mIfS (mTst (mBin fEq (mVar 0) (mC (.str "fours"))))
    (mRet takeM (mIfE (mTru (mVar 2)) (mUC (some [0]) [false] F_fours_free (mApp 0 1 mNil (mCons (mVar 1) mNil))) (mUC none [false] F_fours_free (mCons (mVar 1) mNil))))
    mSkip)
    (mSeq (mSet 3 takeF (mBin fEq (mVar 0) (mC (.str "twice"))))
    (mRet takeM (mIfE (mTru (mVar 2)) (mUC (some [0, 1]) [false, false] F_sums_free (mApp 0 2 mNil (mCons (mVar 1) (mCons (mVar 3) mNil)))) (mUC none [false, false] F_sums_free (mCons (mVar 1) (mCons (mVar 3) mNil))))))))
def F_u_law_row : MF := mDef 4 [false, false, false] m_u_law_row
def b1_u_law_own_item : MS := mSeq (mSet 1 takeF (mBin fAdd (mVar 1) (mBin fMul (mVar 2) (mBin fMod (mVar 0) (mC (.int 2))))))
    (mPar 0 2 takeF (mCons (mBin fDiv (mVar 0) (mC (.int 2))) (mCons (mBin fMul (mVar 2) (mC (.int 3))) mNil)))
def m_u_law_own_item : MS := mSeq (mUnp (fTup 2 (fCons (fName 1) (fCons (fName 2) fNil))) (mTup (mCons (mC (.int 0)) (mCons (mC (.int 1)) mNil))))
    (mSeq (mFor (mRange1 (mCons (mC (.int 40)) mNil)) (fName 3) b1_u_law_own_item)
    (mRet takeM (mVar 1)))
def F_u_law_own_item : MF := mDef 4 [false] m_u_law_own_item
def b1_u_law_own_place : MS := mSeq (mIfS (mTst (mBin fEq (mBin fMod (mVar 0) (mC (.int 3))) (mC (.int 2))))
    (mRet takeM (mC .none))
    mSkip)
    (mSeq (mSet 1 takeF (mBin fAdd (mVar 1) (mBin fMul (mVar 2) (mBin fMod (mVar 0) (mC (.int 3))))))
    (mPar 0 2 takeF (mCons (mBin fDiv (mVar 0) (mC (.int 3))) (mCons (mBin fMul (mVar 2) (mC (.int 2))) mNil))))
def m_u_law_own_place : MS := mSeq (mUnp (fTup 2 (fCons (fName 1) (fCons (fName 2) fNil))) (mTup (mCons (mC (.int 0)) (mCons (mC (.int 1)) mNil))))
    (mSeq (mFor (mRange1 (mCons (mC (.int 38)) mNil)) (fName 3) b1_u_law_own_place)
    (mRet takeM (mVar 1)))
def F_u_law_own_place : MF := mDef 4 [false] m_u_law_own_place
def b1_u_law_great : MS := mSet 2 takeF (mBin fAdd (mBin fMul (mVar 2) (mBin fPow (mC (.int 10)) (mC (.int 7)))) (mUC none [true, false] F_u_law_draw (mCons (mVar 0) (mCons (mBin fPow (mC (.int 10)) (mC (.int 7))) mNil))))
def m_u_law_great : MS := mSeq (mSet 2 takeF (mC (.int 0)))
    (mSeq (mFor (mRange1 (mCons (mC (.int 3)) mNil)) (fName 3) b1_u_law_great)
    (mRet takeM (mBin fMod (mVar 2) (mVar 1))))
def F_u_law_great : MF := mDef 4 [true, false] m_u_law_great
def b1_u_law_some_k : MS := mSet 2 takeF (mBin fMul (mVar 2) (mC (.int 2)))
def m_u_law_some_k : MS := mSeq (mSet 1 takeF (mUC none [true, false] F_u_law_draw (mCons (mVar 0) (mCons (mC (.int 7)) mNil))))
    (mSeq (mIfS (mTst (mBin fEq (mVar 1) (mC (.int 0))))
    (mRet takeM (mUC none [true, false] F_u_law_draw (mCons (mVar 0) (mCons (mC (.int 64)) mNil))))
    mSkip)
    (mSeq (mIfS (mTst (mBin fEq (mVar 1) (mC (.int 1))))
    (mRet takeM (mUC none [true, false] F_u_law_pick (mCons (mVar 0) (mCons (mLst (mCons (mC (.int 0)) (mCons (mC (.int 1)) (mCons (mBin fPow (mC (.int 10)) (mC (.int 12))) (mCons (mBin fSub (mBin fPow (mC (.int 10)) (mC (.int 12))) (mC (.int 1))) mNil))))) mNil))))
    mSkip)
    (mSeq (mIfS (mTst (mBin fIn (mVar 1) (mLst (mCons (mC (.int 2)) (mCons (mC (.int 3)) mNil)))))
    (mSeq (mSet 2 takeF (mC (.int 1)))
    (mSeq (mFor (mRange1 (mCons (mUC none [true, false] F_u_law_draw (mCons (mVar 0) (mCons (mC (.int 40)) mNil))) mNil)) (fName 3) b1_u_law_some_k)
    (mRet takeM (mBin fSub (mVar 2) (mBin fSub (mVar 1) (mC (.int 2)))))))
    mSkip)
    (mRet takeM (mUC none [true, false] F_u_law_great (mCons (mVar 0) (mCons (mBin fAdd (mBin fPow (mC (.int 10)) (mC (.int 12))) (mC (.int 1))) mNil)))))))
def F_u_law_some_k : MF := mDef 4 [true] m_u_law_some_k
def b1_u_law_some_x : MS := mSet 3 takeF (mBin fMul (mVar 3) (mC (.int 3)))
def m_u_law_some_x : MS := mSeq (mSet 1 takeF (mUC none [true, false] F_u_law_draw (mCons (mVar 0) (mCons (mC (.int 8)) mNil))))
    (mSeq (mIfS (mTst (mBin fEq (mVar 1) (mC (.int 0))))
    (mRet takeM (mUC none [true, false] F_u_law_draw (mCons (mVar 0) (mCons (mC (.int 300)) mNil))))
    mSkip)
    (mSeq (mIfS (mTst (mBin fEq (mVar 1) (mC (.int 1))))
    (mRet takeM (mBin fSub (mBin fPow (mC (.int 10)) (mC (.int 18))) (mUC none [true, false] F_u_law_pick (mCons (mVar 0) (mCons (mLst (mCons (mC (.int 0)) (mCons (mC (.int 1)) (mCons (mUC none [true, false] F_u_law_draw (mCons (mVar 0) (mCons (mC (.int 1000)) mNil))) mNil)))) mNil)))))
    mSkip)
    (mSeq (mIfS (mTst (mBin fEq (mVar 1) (mC (.int 2))))
    (mRet takeM (mUC none [true, false] F_u_law_great (mCons (mVar 0) (mCons (mBin fAdd (mBin fPow (mC (.int 10)) (mC (.int 18))) (mC (.int 1))) mNil))))
    mSkip)
    (mSeq (mSet 2 takeF (mUC none [false] F_u_law_own_item (mCons (mUC none [true, false] F_u_law_great (mCons (mVar 0) (mCons (mBin fPow (mC (.int 2)) (mC (.int 38))) mNil))) mNil)))
    (mSeq (mIfS (mTst (mBin fLt (mVar 1) (mC (.int 5))))
    (mRet takeM (mVar 2))
    mSkip)
    (mSeq (mIfS (mTst (mBin fEq (mVar 1) (mC (.int 5))))
    (mRet takeM (mCall fAbs (mCons (mBin fAdd (mVar 2) (mUC none [true, false] F_u_law_pick (mCons (mVar 0) (mCons (mLst (mCons (mUn fNeg (mC (.int 1))) (mCons (mC (.int 1)) mNil))) mNil)))) mNil)))
    mSkip)
    (mSeq (mSet 3 takeF (mC (.int 1)))
    (mSeq (mFor (mRange1 (mCons (mUC none [true, false] F_u_law_draw (mCons (mVar 0) (mCons (mC (.int 37)) mNil))) mNil)) (fName 4) b1_u_law_some_x)
    (mRet takeM (mBin fAdd (mVar 2) (mBin fMul (mVar 3) (mBin fSub (mC (.int 2)) (mBin fMod (mBin fDiv (mVar 2) (mVar 3)) (mC (.int 3)))))))))))))))
def F_u_law_some_x : MF := mDef 5 [true] m_u_law_some_x
def m_numbers_summed : MS := mRet takeM (mBin fXor (mVar 0) (mVar 1))
def F_numbers_summed : MF := mDef 2 [false, false] m_numbers_summed
def b1_summed_all : MS := mSet 1 takeF (mBin fXor (mVar 1) (mVar 2))
def m_summed_all : MS := mSeq (mSet 1 takeF (mC (.int 0)))
    (mSeq (mFor (mItems (mVar 0)) (fName 2) b1_summed_all)
    (mRet takeM (mVar 1)))
def F_summed_all : MF := mDef 3 [false] m_summed_all
def c1_bits_of : MG := fName 1
def e1_bits_of : ME := mVar 1
def m_bits_of : MS := mRet takeM (mCall fTuple (mCons (mComp (mRange1 (mCons (mUn fBits (mVar 0)) mNil)) c1_bits_of (mTst (mBin fEq (mBin fAnd (mBin fShr (mVar 0) (mVar 1)) (mC (.int 1))) (mC (.int 1)))) e1_bits_of takeF [1]) mNil))
def F_bits_of : MF := mDef 2 [false] m_bits_of
def c1_number_of_bits : MG := fName 1
def e1_number_of_bits : ME := mBin fShl (mC (.int 1)) (mVar 1)
def m_number_of_bits : MS := mRet takeM (mCall fSum (mCons (mComp (mItems (mVar 0)) c1_number_of_bits mYes e1_number_of_bits takeF [1]) mNil))
def F_number_of_bits : MF := mDef 2 [false] m_number_of_bits
def c1_least_unbarred : MG := fName 3
def t2_least_unbarred : MT := mTst (mBin fIn (mVar 2) (mVar 1))
def b2_least_unbarred : MS := mSet 2 takeF (mBin fAdd (mVar 2) (mC (.int 1)))
def m_least_unbarred : MS := mSeq (mSet 1 takeV (mDcomp (mItems (mVar 0)) c1_least_unbarred mYes (mVar 3) (mC (.bool true)) [3]))
    (mSeq (mSet 2 takeF (mC (.int 0)))
    (mSeq (mWhile t2_least_unbarred b2_least_unbarred)
    (mRet takeM (mVar 2))))
def F_least_unbarred : MF := mDef 4 [false] m_least_unbarred
def c2_u_law_sums : MG := fName 7
def e2_u_law_sums : ME := mBin fXor (mVar 7) (mVar 5)
def c3_u_law_sums : MG := fName 8
def e3_u_law_sums : ME := mBin fXor (mVar 8) (mVar 5)
def b1_u_law_sums : MS := mSeq (mSet 6 takeF (mComp (mItems (mBin fSlH (mVar 0) (mVar 4))) c2_u_law_sums mYes e2_u_law_sums takeF [7]))
    (mSeq (mSet 2 takeF (mBin fAdd (mBin fAdd (mVar 2) (mVar 6)) (mIfE (mTru (mVar 1)) (mComp (mItems (mVar 3)) c3_u_law_sums mYes e3_u_law_sums takeF [8]) (mLst mNil))))
    (mSet 3 takeF (mBin fAdd (mVar 3) (mVar 6))))
def m_u_law_sums : MS := mSeq (mPar 2 3 takeF (mCons (mLst mNil) (mCons (mLst mNil) mNil)))
    (mSeq (mFor (mEnumA (mVar 0)) (fTup 2 (fCons (fName 4) (fCons (fName 5) fNil))) b1_u_law_sums)
    (mRet takeM (mVar 2)))
def F_u_law_sums : MF := mDef 9 [false, false] m_u_law_sums
def c1_u_law_are_sums_right : MG := fName 17
def e1_u_law_are_sums_right : ME := mVar 17
def b2_u_law_are_sums_right : MS := mSet 10 takeF (mBin fXor (mVar 10) (mVar 11))
def m_u_law_are_sums_right : MS := mSeq (mSet 3 takeF (mUC none [true, false] F_u_law_draw (mCons (mVar 0) (mCons (mCall fLen (mCons (mVar 1) mNil)) mNil))))
    (mSeq (mUnp (fTup 2 (fCons (fName 4) (fCons (fName 5) fNil))) (mTup (mCons (mBin fIx (mVar 1) (mVar 3)) (mCons (mBin fIx (mVar 1) (mBin fMod (mBin fAdd (mBin fAdd (mVar 3) (mC (.int 1))) (mUC none [true, false] F_u_law_draw (mCons (mVar 0) (mCons (mBin fSub (mCall fLen (mCons (mVar 1) mNil)) (mC (.int 1))) mNil)))) (mCall fLen (mCons (mVar 1) mNil)))) mNil))))
    (mSeq (mSet 6 takeF (mCall fTuple (mCons (mComp (mRange1 (mCons (mC (.int 16)) mNil)) c1_u_law_are_sums_right (mTst (mBin fEq (mBin fMod (mBin fDiv (mVar 4) (mBin fShl (mC (.int 1)) (mVar 17))) (mC (.int 2))) (mC (.int 1)))) e1_u_law_are_sums_right takeF [17]) mNil)))
    (mSeq (mPar 7 8 takeF (mCons (mUC none [true, false] F_u_law_draw (mCons (mVar 0) (mCons (mBin fSub (mCall fLen (mCons (mVar 2) mNil)) (mC (.int 3))) mNil))) (mCons (mBin fAdd (mC (.int 2)) (mUC none [true, false] F_u_law_draw (mCons (mVar 0) (mCons (mC (.int 3)) mNil)))) mNil)))
    (mSeq (mPar 9 10 takeF (mCons (mSl2 (mVar 2) (mVar 7) (mBin fAdd (mVar 7) (mVar 8))) (mCons (mC (.int 0)) mNil)))
    (mSeq (mFor (mItems (mVar 9)) (fName 11) b2_u_law_are_sums_right)
    (mSeq (mSet 12 takeF (mLst (mCons (mUC none [false, false] F_numbers_summed (mCons (mVar 4) (mCons (mVar 5) mNil))) (mCons (mUC (some [0, 1]) [false, false] F_numbers_summed (mApp 0 2 mNil (mCons (mVar 5) (mCons (mVar 4) mNil)))) (mCons (mUC none [false, false] F_numbers_summed (mCons (mVar 4) (mCons (mVar 4) mNil))) (mCons (mUC none [false] F_summed_all (mCons (mVar 9) mNil)) mNil))))))
    (mSeq (mSet 12 takeF (mBin fAdd (mVar 12) (mLst (mCons (mUC (some [0]) [false] F_summed_all (mApp 0 1 mNil (mCons (mBin fAdd (mVar 9) (mBin fSlH (mVar 9) (mC (.int 1)))) mNil))) (mCons (mUC none [false] F_bits_of (mCons (mVar 4) mNil)) (mCons (mUC (some [0]) [false] F_bits_of (mApp 0 1 mNil (mCons (mVar 4) mNil))) (mCons (mUC none [false] F_number_of_bits (mCons (mVar 6) mNil)) mNil)))))))
    (mSeq (mIfS (mNotT (mTru (mUC none [false, false] F_u_law_is (mCons (mVar 12) (mCons (mLst (mCons (mBin fXor (mVar 4) (mVar 5)) (mCons (mBin fXor (mVar 4) (mVar 5)) (mCons (mC (.int 0)) (mCons (mVar 10) (mCons (mBin fXor (mVar 10) (mBin fIx (mVar 9) (mC (.int 0)))) (mCons (mVar 6) (mCons (mVar 6) (mCons (mVar 4) mNil))))))))) mNil)))))
    (mRet takeM (mC (.bool false)))
    mSkip)
    (mSeq (mPar 13 14 takeF (mCons (mUC none [true, false] F_u_law_draw (mCons (mVar 0) (mCons (mCall fLen (mCons (mVar 1) mNil)) mNil))) (mCons (mUC none [true, false] F_u_law_draw (mCons (mVar 0) (mCons (mC (.int 17)) mNil))) mNil)))
    (mSeq (mSet 15 takeF (mBin fAdd (mBin fAdd (mTup (mCons (mC (.int 0)) mNil)) (mBin fSlH (mVar 1) (mVar 13))) (mCall fTuple (mCons (mUC none [false, false] F_u_law_sums (mCons (mBin fSlH (mVar 1) (mVar 13)) (mCons (mC (.bool false)) mNil))) mNil))))
    (mSeq (mSet 16 takeF (mBin fAdd (mBin fAdd (mTup (mCons (mC (.int 0)) mNil)) (mBin fSlH (mVar 2) (mVar 14))) (mCall fTuple (mCons (mUC none [false, false] F_u_law_sums (mCons (mBin fSlH (mVar 2) (mVar 14)) (mCons (mC (.bool true)) mNil))) mNil))))
    (mRet takeM (mUC none [false, false] F_u_law_is (mCons (mLst (mCons (mUC none [false] F_least_unbarred (mCons (mVar 15) mNil)) (mCons (mUC (some [0]) [false] F_least_unbarred (mApp 0 1 mNil (mCons (mVar 16) mNil))) mNil))) (mCons (mLst (mCons (mBin fIx (mVar 1) (mVar 13)) (mCons (mBin fIx (mVar 2) (mVar 14)) mNil))) mNil)))))))))))))))
def F_u_law_are_sums_right : MF := mDef 18 [true, false, false] m_u_law_are_sums_right
def b1_law : MS := mSeq (mSet 6 takeF (mUC none [true, false] F_u_law_pick (mCons (mVar 1) (mCons (mLst (mCons (mBin fAdd (mC (.int 1)) (mUC none [true, false] F_u_law_draw (mCons (mVar 1) (mCons (mC (.int 40)) mNil)))) (mCons (mBin fAdd (mC (.int 1)) (mUC none [true, false] F_u_law_draw (mCons (mVar 1) (mCons (mC (.int 40)) mNil)))) (mCons (mC (.int 40)) (mCons (mBin fAdd (mC (.int 1)) (mUC none [true, false] F_u_law_draw (mCons (mVar 1) (mCons (mC (.int 12)) mNil)))) mNil))))) mNil))))
    (mSeq (mSet 7 takeF (mUC none [true, false] F_u_law_pick (mCons (mVar 1) (mCons (mLst (mCons (mBin fAdd (mC (.int 1)) (mUC none [true, false] F_u_law_draw (mCons (mVar 1) (mCons (mC (.int 40)) mNil)))) (mCons (mBin fAdd (mC (.int 1)) (mUC none [true, false] F_u_law_draw (mCons (mVar 1) (mCons (mC (.int 24)) mNil)))) (mCons (mC (.int 1)) mNil)))) mNil))))
    (mSeq (mSet 7 takeF (mIfE (mTst (mBin fNe (mVar 7) (mVar 6))) (mVar 7) (mBin fAdd (mC (.int 1)) (mBin fMod (mVar 6) (mC (.int 40))))))
    (mSeq (mSet 8 takeF (mUC none [false, false] F_u_law_going (mCons (mCall fMax3 (mCons (mVar 6) (mCons (mVar 7) (mCons (mC (.int 17)) mNil)))) (mCons (mVar 5) mNil))))
    (mSeq (mExpr (mMeth 4 lAppend (mCons (mVar 8) mNil)))
    (mSeq (mExpr (mMeth 3 lAppend (mCons (mTup (mCons (mVar 5) (mCons (mVar 6) (mCons (mBin fSlH (mVar 8) (mVar 6)) mNil)))) mNil)))
    (mExpr (mMeth 3 lAppend (mCons (mTup (mCons (mVar 5) (mCons (mVar 7) (mCons (mBin fSlH (mVar 8) (mVar 7)) mNil)))) mNil))))))))
def b2_law : MS := mIfS (mNotT (mTru (mUC none [false, false] F_u_law_is (mCons (mUC none [false, false, false] F_u_law_row (mCons (mVar 5) (mCons (mVar 6) (mCons (mBin fEq (mBin fMod (mVar 9) (mC (.int 2))) (mC (.int 1))) mNil)))) (mCons (mVar 10) mNil)))))
    (mRet takeM (mC (.bool false)))
    mSkip
def c3_law : MG := fName 14
def e3_law : ME := mUC none [true] F_u_law_some_k (mCons (mVar 1) mNil)
def c4_law : MG := fName 9
def e4_law : ME := mUC none [false] F_u_law_own_item (mCons (mVar 9) mNil)
def c5_law : MG := fName 9
def e5_law : ME := mUC none [false] F_steps_item (mCons (mVar 9) mNil)
def c6_law : MG := fName 9
def e6_law : ME := mUC (some [0]) [false] F_steps_item (mApp 0 1 mNil (mCons (mVar 9) mNil))
def c7_law : MG := fName 14
def e7_law : ME := mUC none [true] F_u_law_some_x (mCons (mVar 1) mNil)
def c8_law : MG := fName 15
def e8_law : ME := mUC none [false] F_u_law_own_place (mCons (mVar 15) mNil)
def c9_law : MG := fName 15
def e9_law : ME := mUC none [false] F_steps_place (mCons (mVar 15) mNil)
def c10_law : MG := fName 15
def e10_law : ME := mUC (some [0]) [false] F_steps_place (mApp 0 1 mNil (mCons (mVar 15) mNil))
def m_law : MS := mSeq (mSet 1 takeV (mUC none [false] F_u_law_own_bag (mCons (mVar 0) mNil)))
    (mSeq (mParL [2, 3, 4] [takeF, takeV, takeV] (mCons (mLst (mCons (mC (.str "steps")) (mCons (mC (.str "once")) (mCons (mC (.str "twice")) (mCons (mC (.str "carries")) (mCons (mC (.str "fours")) mNil)))))) (mCons (mLst mNil) (mCons (mLst mNil) mNil))))
    (mSeq (mFor (mItems (mVar 2)) (fName 5) b1_law)
    (mSeq (mFor (mEnumA (mBin fAdd (mBin fAdd (mVar 3) (mBin fSlH (mVar 3) (mC (.int 1)))) (mBin fSlL (mVar 3) (mUn fNeg (mC (.int 1)))))) (fTup 2 (fCons (fName 9) (fCons (fTup 3 (fCons (fName 5) (fCons (fName 6) (fCons (fName 10) fNil)))) fNil))) b2_law)
    (mSeq (mSet 11 takeF (mComp (mRange1 (mCons (mC (.int 6)) mNil)) c3_law mYes e3_law takeF [14]))
    (mSeq (mSet 12 takeF (mComp (mItems (mVar 11)) c4_law mYes e4_law takeF [9]))
    (mSeq (mSet 13 takeF (mBin fAdd (mComp (mItems (mBin fSlH (mVar 11) (mC (.int 4)))) c5_law mYes e5_law takeF [9]) (mComp (mItems (mBin fSlL (mVar 11) (mC (.int 4)))) c6_law mYes e6_law takeF [9])))
    (mSeq (mIfS (mNotT (mTru (mUC none [false, false] F_u_law_is (mCons (mVar 13) (mCons (mVar 12) mNil)))))
    (mRet takeM (mC (.bool false)))
    mSkip)
    (mSeq (mSet 11 takeF (mComp (mRange1 (mCons (mC (.int 8)) mNil)) c7_law mYes e7_law takeF [14]))
    (mSeq (mSet 12 takeF (mComp (mItems (mVar 11)) c8_law mYes e8_law takeF [15]))
    (mSeq (mSet 13 takeF (mBin fAdd (mComp (mItems (mBin fSlH (mVar 11) (mC (.int 5)))) c9_law mYes e9_law takeF [15]) (mComp (mItems (mBin fSlL (mVar 11) (mC (.int 5)))) c10_law mYes e10_law takeF [15])))
    (mSeq (mIfS (mNotT (mTru (mUC none [false, false] F_u_law_is (mCons (mBin fAdd (mVar 13) (mLst (mCons (mUC none [false] F_steps_place (mCons (mBin fIx (mVar 11) (mC (.int 0))) mNil)) mNil))) (mCons (mBin fAdd (mVar 12) (mBin fSlH (mVar 12) (mC (.int 1)))) mNil)))))
    (mRet takeM (mC (.bool false)))
    mSkip)
    (mRet takeM (mUC none [true, false, false] F_u_law_are_sums_right (mCons (mVar 1) (mCons (mBin fIx (mVar 4) (mC (.int 3))) (mCons (mBin fIx (mVar 4) (mC (.int 4))) mNil))))))))))))))))
def F_law : MF := mDef 16 [false] m_law

end
end K37
namespace K37
open PySem PySem.Spec L2 Pv
/-- the bag: cells, the rest of a cell, the mixed number -/
def bagL (cs : List Int) (a m : Int) : List O := [.own (cs.map oi), oi a, oi m]
structure BagOk (bl : List O) : Prop where
  ex : ∃ cs a m, bl = bagL cs a m ∧ (∀ c ∈ cs, (0 : Int) ≤ c) ∧ 0 ≤ a ∧ 0 ≤ m ∧ m < 2147483647
theorem eqv_nil (ds : List D) : PyData.eqv (.list ds) (.list []) = ds.isEmpty := by
  cases ds <;> simp [PyData.eqv, PyData.eqvAll]
theorem draw_t (cs : List Int) (a m : Int) (x y z : Sl) : t1_u_law_draw [.wr (.own (bagL cs a m)), x, y, z] = some (decide (a = 0) && !cs.isEmpty, [.wr (.own (bagL cs a m)), x, y, z]) := by
  by_cases h : a = 0
  · simp [t1_u_law_draw, bagL, atI, ixN, mNeAt, h, vals_ints_oi, eqv_nil]
  · simp [t1_u_law_draw, bagL, atI, ixN, mNeAt, h, vals_ints_oi, eqv_nil]
theorem draw_b (cs : List Int) (c m : Int) (x y z : Sl) : b1_u_law_draw [.wr (.own (bagL (cs ++ [c]) 0 m)), x, y, z] = some (.nx [.wr (.own (bagL cs (if 1000000000 < c then c else 0) m)), x, vi c, z]) := by
  by_cases h : 1000000000 < c
  · simp [b1_u_law_draw, bagL, atI, ixN, mPopAt, lPop, h, powOk]
  · simp [b1_u_law_draw, bagL, atI, ixN, mPopAt, lPop, h, powOk]
theorem draw_w : ∀ (k : Nat) (cs : List Int) (a m : Int) (x y z : Sl), cs.length = k → (∀ c ∈ cs, (0 : Int) ≤ c) → 0 ≤ a → ∃ cs' a' y', (∀ c ∈ cs', (0 : Int) ≤ c) ∧ 0 ≤ a' ∧
    mWhile t1_u_law_draw b1_u_law_draw [.wr (.own (bagL cs a m)), x, y, z] = some (.nx [.wr (.own (bagL cs' a' m)), x, y', z]) := by
  intro k
  induction k with
  | zero =>
    intro cs a m x y z hl hc ha
    obtain rfl := List.length_eq_zero_iff.mp hl
    exact ⟨[], a, y, by simp, ha, mWhile_end (by rw [draw_t]; simp)⟩
  | succ k ih =>
    intro cs a m x y z hl hc ha
    by_cases h : a = 0
    · subst h
      have hne : cs ≠ [] := by intro e; subst e; simp at hl
      obtain ⟨cs', c, rfl⟩ : ∃ cs' c, cs = cs' ++ [c] := ⟨cs.dropLast, cs.getLast hne, (List.dropLast_concat_getLast hne).symm⟩
      have hc0 : 0 ≤ c := hc c (by simp)
      obtain ⟨cs2, a2, y2, p1, p2, p3⟩ := ih cs' (if 1000000000 < c then c else 0) m x (vi c) z (by simpa using hl) (fun d hd => hc d (by simp [hd])) (by split <;> omega)
      exact ⟨cs2, a2, y2, p1, p2, mWhile_go (by rw [draw_t]; simp) (draw_b cs' c m x y z) p3⟩
    · exact ⟨cs, a, y, hc, ha, mWhile_end (by rw [draw_t]; simp [h])⟩
theorem draw_spec {bl : List O} (hb : BagOk bl) {b : Int} (h0 : 0 < b) (h1 : b.natAbs < 2 ^ 200) : ∃ r bl', BagOk bl' ∧ 0 ≤ r ∧ r < b ∧ F_u_law_draw [.wr (.own bl), vi b] = some (oi r, [.wr (.own bl'), .emp]) := by
  obtain ⟨cs, a, m, rfl, hc, ha, hm, hm2⟩ := hb.ex
  obtain ⟨cs', a', y', p1, p2, p3⟩ := draw_w cs.length cs a m (vi b) .emp .emp rfl hc ha
  by_cases h : 0 < a'
  · refine ⟨a' % b, bagL cs' (a' / b) m, ⟨cs', a' / b, m, rfl, p1, Int.ediv_nonneg ha (by omega) |> fun _ => Int.ediv_nonneg p2 (by omega), hm, hm2⟩, Int.emod_nonneg _ (by omega), Int.emod_lt_of_pos _ h0, ?_⟩
    simp [F_u_law_draw, m_u_law_draw, p3]
    simp [bagL, atI, ixN, h, h0, h1]
  · obtain rfl : a' = 0 := by omega
    have hq : 0 ≤ (m * 48271 + 11) % 2147483647 := Int.emod_nonneg _ (by decide)
    have hq2 : (m * 48271 + 11) % 2147483647 < 2147483647 := Int.emod_lt_of_pos _ (by decide)
    generalize hm' : (m * 48271 + 11) % 2147483647 = m' at hq hq2
    refine ⟨m' * m' % 2147483629 / 7 % b, bagL cs' 0 m', ⟨cs', 0, m', rfl, p1, by omega, hq, hq2⟩, Int.emod_nonneg _ (by omega), Int.emod_lt_of_pos _ h0, ?_⟩
    have z1 : m.natAbs < 2 ^ 200 := by omega
    have z2 : m'.natAbs < 2 ^ 200 := by omega
    simp [F_u_law_draw, m_u_law_draw, p3]
    simp [bagL, atI, ixN, h0, h1, z1, z2, hm']
end K37

namespace K37
open PySem PySem.Spec L2 Pv
theorem pick_spec {bl : List O} (hb : BagOk bl) {ds : List D} (h0 : ds ≠ []) (h1 : ds.length < 1000) : ∃ d bl', BagOk bl' ∧ d ∈ ds ∧ F_u_law_pick [.wr (.own bl), vd (.list ds)] = some (.val d, [.wr (.own bl'), .emp]) := by
  have hl : 0 < ds.length := List.length_pos_iff.mpr h0
  obtain ⟨r, bl', ok, r0, r1, hd⟩ := draw_spec hb (b := ds.length) (by omega) (by omega)
  have hlt : r.toNat < ds.length := by omega
  refine ⟨ds[r.toNat], bl', ok, List.getElem_mem _, ?_⟩
  simp [F_u_law_pick, m_u_law_pick, hd, atI, ixN, r0, r1, hlt]
theorem great_spec {bl : List O} (hb : BagOk bl) {b : Int} (h0 : 0 < b) (h1 : b.natAbs < 2 ^ 200) : ∃ r bl', BagOk bl' ∧ 0 ≤ r ∧ r < b ∧ F_u_law_great [.wr (.own bl), vi b] = some (oi r, [.wr (.own bl'), .emp]) := by
  obtain ⟨e, he, hf⟩ := forL_ind (f := fName 3) (body := b1_u_law_great) (fun i env => ∃ bl x y, env = [.wr (.own bl), vi b, vi x, y] ∧ BagOk bl ∧ 0 ≤ x ∧ ((i = 3 ∧ x = 0) ∨ (i = 2 ∧ x < 10 ^ 7) ∨ (i = 1 ∧ x < 10 ^ 14) ∨ (i = 0 ∧ x < 10 ^ 21))) (by
    rintro i d env ⟨bl, x, y, rfl, ok, x0, x1⟩
    obtain ⟨r, bl', ok', r0, r1, hd⟩ := draw_spec ok (b := 10000000) (by decide) (by decide)
    have z : x.natAbs < 2 ^ 200 := by omega
    exact ⟨_, _, by simp; exact rfl, by simp [b1_u_law_great, powOk, z, hd] <;> exact rfl, bl', x * 10000000 + r, vd d, rfl, ok', by omega, by omega⟩) (rangeD 0 3) [.wr (.own bl), vi b, vi 0, .emp] ⟨bl, 0, .emp, rfl, hb, by decide, by simp⟩
  obtain ⟨bl', x, y, rfl, ok, x0, x1⟩ := he
  refine ⟨x % b, bl', ok, Int.emod_nonneg _ (by omega), Int.emod_lt_of_pos _ h0, ?_⟩
  simp [F_u_law_great, m_u_law_great, small62, hf, h0]
theorem is_fn {d : D} (h : fine d = true) (hd : d.depth ≤ 64) (hb : d.bulk ≤ 2 ^ 20) : F_u_law_is [vd d, vd d] = some (.val (.bool true), [.emp, .emp]) := by
  have r := reprOk_of h hd hb
  have e := eqv_self h
  have s := shaped_of h hd
  cases d with
  | int i => simp [F_u_law_is, m_u_law_is, r]
  | str x => simp [F_u_law_is, m_u_law_is, r]
  | _ => simp [F_u_law_is, m_u_law_is, r, s, e]
theorem cut_all {ds : List D} {n : Nat} (h : ds.length ≤ n) : cutD ds none (some (n : Int)) = ds := by
  unfold cutD
  rw [HT.sIx_none, HT.sIx_nat, Nat.min_eq_right h]
  simp
def absG : D → D
  | .int i => .int (if i < 0 then -i else i)
  | _ => .none
theorem own_spec (ns : List Int) (h : ns.length ≤ 63) : ∃ bl, BagOk bl ∧ F_u_law_own_bag [vd (.list (ns.map .int))] = some (.own bl, [.emp]) := by
  have c63 := cut_all (ds := ns.map .int) (n := 63) (by simpa using h)
  have lc := lcL_map (f := c1_u_law_own_bag) (tt := mYes) (te := e1_u_law_own_bag) (tk := takeF) (vs := [3]) (env := [vd (.list (ns.map .int)), .emp, .emp, .emp]) absG (ns.map .int) [] (by
    intro d hd
    simp at hd
    obtain ⟨i, hi, rfl⟩ := hd
    refine ⟨_, _, _, _, by simp [c1_u_law_own_bag]; exact rfl, rfl, by simp [e1_u_law_own_bag]; exact ⟨rfl, rfl⟩, by simp [absG]; exact rfl, by simp [wipeE]⟩) (by simp; omega)
  have ex : (ns.map PyData.int).map absG = (ns.map fun i => if i < 0 then -i else i).map .int := by simp [Function.comp_def, absG]
  rw [ex] at lc
  obtain ⟨cs, hcs⟩ : ∃ cs, cs = ns.map fun i : Int => if i < 0 then -i else i := ⟨_, rfl⟩
  rw [← hcs] at lc
  have c0 : ∀ c ∈ cs, (0 : Int) ≤ c := by
    rw [hcs]; simp; intro a ha; split <;> omega
  have cl : cs.length ≤ 63 := by rw [hcs]; simpa using h
  obtain ⟨e, he, hf⟩ := forL_pre (f := fName 3) (body := b2_u_law_own_bag) (fun pre env => ∃ m y, env = [vd (.list (ns.map .int)), vd (.list (cs.map .int)), vi m, y] ∧ 0 ≤ m ∧ m < 2147483647) (cs.map .int) (by
    rintro pre d post env hall ⟨m, y, rfl, m0, m1⟩
    have : d ∈ cs.map .int := by rw [hall]; simp
    simp at this
    obtain ⟨c, hc, rfl⟩ := this
    have z : m.natAbs < 2 ^ 200 := by omega
    refine ⟨_, _, by simp; exact rfl, by simp [b2_u_law_own_bag, z]; exact rfl, _, vi c, rfl, Int.emod_nonneg _ (by decide), Int.emod_lt_of_pos _ (by decide)⟩) (cs.map .int) [] [vd (.list (ns.map .int)), vd (.list (cs.map .int)), vi (2468 + cs.length), .emp] rfl ⟨2468 + cs.length, .emp, rfl, by omega, by omega⟩
  obtain ⟨m, y, rfl, m0, m1⟩ := he
  refine ⟨bagL cs.reverse 0 m, ⟨cs.reverse, 0, m, rfl, fun c hc => c0 c (by simpa using hc), by decide, m0, m1⟩, ?_⟩
  simp at lc c63
  simp [F_u_law_own_bag, m_u_law_own_bag, mComp, fSlH, cutO, itemsL, c63, itemsO, isClean, wipeE, restE, lc, hf, fRevL, bagL]
end K37

namespace K37
open PySem PySem.Spec L2 Pv
/-- binary figures, the ones first; the same figures read by threes -/
def figs (k : Nat) : List Int := if h : k = 0 then [] else ((k % 2 : Nat) : Int) :: figs (k / 2)
termination_by k
decreasing_by omega
def tern (k : Nat) : Int := if h : k = 0 then 0 else ((k % 2 : Nat) : Int) + 3 * tern (k / 2)
termination_by k
decreasing_by omega
theorem figs_zero : figs 0 = [] := by rw [figs]; simp
theorem figs_pos {k : Nat} (h : k ≠ 0) : figs k = ((k % 2 : Nat) : Int) :: figs (k / 2) := by rw [figs]; simp [h]
theorem tern_zero : tern 0 = 0 := by rw [tern]; simp
theorem tern_pos {k : Nat} (h : k ≠ 0) : tern k = ((k % 2 : Nat) : Int) + 3 * tern (k / 2) := by rw [tern]; simp [h]
theorem figs_w : ∀ (n k : Nat) (acc : List Int), k < 2 ^ n → acc.length + n ≤ 1000 → mWhile t1_figures_row b1_figures_row [vi k, .wr (.own (acc.map oi))] = some (.nx [vi 0, .wr (.own ((acc ++ figs k).map oi))])
  | n, k, acc, hk, hl => by
    by_cases h : k = 0
    · subst h
      rw [figs_zero, List.append_nil]
      exact mWhile_end (by simp [t1_figures_row])
    · cases n with
      | zero => simp at hk; omega
      | succ n =>
        have ih := figs_w n (k / 2) (acc ++ [((k % 2 : Nat) : Int)]) (by rw [Nat.pow_succ] at hk; omega) (by simp; omega)
        rw [figs_pos h]
        have hl' : acc.length < 16777216 := by omega
        have hp : (0 : Int) < k := by omega
        refine mWhile_go (e := [vi k, .wr (.own (acc.map oi))]) (e1 := [vi ((k / 2 : Nat) : Int), .wr (.own ((acc ++ [((k % 2 : Nat) : Int)]).map oi))]) (by simp [t1_figures_row]; omega) (by simp [b1_figures_row, hl']) ?_
        rw [ih]
        simp
theorem figs_fn {k : Nat} (hk : k < 2 ^ 200) : F_figures_row [vi k] = some (.own ((figs k).map oi), [.emp]) := by
  have h := figs_w 200 k [] hk (by simp)
  simp at h
  simp [F_figures_row, m_figures_row, h]
theorem figs_le : ∀ (n k : Nat), k < 2 ^ n → (figs k).length ≤ n ∧ ∀ x ∈ figs k, x = 0 ∨ x = 1
  | n, k, hk => by
    by_cases h : k = 0
    · subst h; rw [figs_zero]; simp
    · cases n with
      | zero => simp at hk; omega
      | succ n =>
        obtain ⟨a, b⟩ := figs_le n (k / 2) (by rw [Nat.pow_succ] at hk; omega)
        rw [figs_pos h]
        refine ⟨by simp; omega, fun x hx => ?_⟩
        rcases List.mem_cons.mp hx with e | e
        · omega
        · exact b x e
/-- the worth of figures by threes -/
def by3 : List Int → Int
  | [] => 0
  | f :: fs => f + 3 * by3 fs
theorem by3_figs : ∀ (n k : Nat), k < 2 ^ n → by3 (figs k) = tern k
  | n, k, hk => by
    by_cases h : k = 0
    · subst h; rw [figs_zero, tern_zero]; rfl
    · cases n with
      | zero => simp at hk; omega
      | succ n => rw [figs_pos h, tern_pos h, by3, by3_figs n (k / 2) (by rw [Nat.pow_succ] at hk; omega)]
end K37

namespace K37
open PySem PySem.Spec L2 Pv
theorem by3_bound : ∀ (fs : List Int), (∀ x ∈ fs, x = 0 ∨ x = 1) → 0 ≤ by3 fs ∧ by3 fs < 3 ^ fs.length
  | [], _ => by simp [by3]
  | f :: fs, h => by
    obtain ⟨a, b⟩ := by3_bound fs fun x hx => h x (by simp [hx])
    have hf := h f (by simp)
    simp only [by3, List.length_cons, Int.pow_succ]
    omega
theorem forL_append {f : MG} {b : MS} : ∀ {xs ys : List D} {env e : Pv.Env}, forL f b xs env = some (.nx e) → (∀ ev c, b ev = some c → ∃ e, c = .nx e) → forL f b (xs ++ ys) env = forL f b ys e
  | [], ys, env, e, h, _ => by simp [forL] at h; subst h; rfl
  | x :: xs, ys, env, e, h, hb => by
    simp only [forL, List.cons_append, Option.bind_eq_some_iff] at h ⊢
    obtain ⟨e1, h1, c, h2, h3⟩ := h
    obtain ⟨e2, rfl⟩ := hb _ _ h2
    simp only [h1, h2, Option.bind_some]
    exact forL_append h3 hb
theorem b_item_nx : ∀ ev c, b1_steps_item ev = some c → ∃ e, c = .nx e := by
  intro ev c h
  unfold b1_steps_item mSet at h
  simp only [Option.bind_eq_some_iff] at h
  obtain ⟨_, _, _, _, h⟩ := h
  split at h
  · cases h; exact ⟨_, rfl⟩
  · cases h
theorem item_loop (k : Int) : ∀ (fs : List Int) (y : Sl), (∀ x ∈ fs, x = 0 ∨ x = 1) → fs.length ≤ 100 → ∃ y', forL (fName 2) b1_steps_item ((fs.map PyData.int).reverse) [vi k, vi 0, y] = some (.nx [vi k, vi (by3 fs), y'])
  | [], y, _, _ => ⟨y, by simp [forL, by3]⟩
  | f :: fs, y, h, hl => by
    obtain ⟨y', ih⟩ := item_loop k fs y (fun x hx => h x (by simp [hx])) (by simp at hl; omega)
    obtain ⟨b0, b1⟩ := by3_bound fs fun x hx => h x (by simp [hx])
    have p : (3 : Int) ^ fs.length ≤ 3 ^ 100 := by
      have := Nat.pow_le_pow_right (n := 3) (by decide) (show fs.length ≤ 100 by simp at hl; omega)
      exact_mod_cast this
    have z : (by3 fs).natAbs < 2 ^ 200 := by
      have : (3 : Int) ^ 100 < 2 ^ 190 := by decide
      omega
    refine ⟨vi f, ?_⟩
    simp only [List.map_cons, List.reverse_cons]
    rw [forL_append ih b_item_nx]
    simp [forL, b1_steps_item, z, by3]
    omega
theorem item_fn {k : Nat} (hk : k < 2 ^ 100) : F_steps_item [vi k] = some (oi (tern k), [.emp]) := by
  obtain ⟨l1, l2⟩ := figs_le 100 k hk
  obtain ⟨y, h⟩ := item_loop k (figs k) .emp l2 l1
  rw [by3_figs 100 k hk] at h
  have f := figs_fn (Nat.lt_trans hk (by decide) : k < 2 ^ 200)
  have e : vals ((figs k).map oi) = some ((figs k).map .int) := vals_ints_oi _
  simp [F_steps_item, m_steps_item, f, itemsO, e, h]
end K37

namespace K37
open PySem PySem.Spec L2 Pv
theorem mWhile_rt {t : MT} {b : MS} {env e e1 : Pv.Env} {o : O} (h : t env = some (true, e)) (h1 : b e = some (.rt o e1)) : mWhile t b env = some (.rt o e1) := mWhile_of (n := 1) (by simp [whileN, h, h1])
/-- the place of a number without the figure 2 by threes -/
def place (x : Nat) : Option Int := if h : x = 0 then some 0 else if x % 3 = 2 then none else (place (x / 3)).map fun v => ((x % 3 : Nat) : Int) + 2 * v
termination_by x
decreasing_by omega
theorem place_zero : place 0 = some 0 := by rw [place]; simp
theorem place_pos {x : Nat} (h : x ≠ 0) : place x = if x % 3 = 2 then none else (place (x / 3)).map fun v => ((x % 3 : Nat) : Int) + 2 * v := by rw [place]; simp [h]
theorem place_w : ∀ (n x : Nat) (f w : Int), x < 3 ^ n → 0 ≤ f → f < 2 ^ (150 - n) → 0 < w → w ≤ 2 ^ (150 - n) → n ≤ 100 →
    (∀ v, place x = some v → ∃ w', mWhile t1_steps_place b1_steps_place [vi x, vi f, vi w] = some (.nx [vi 0, vi (f + w * v), w'])) ∧ (place x = none → ∃ e, mWhile t1_steps_place b1_steps_place [vi x, vi f, vi w] = some (.rt (.val .none) e))
  | n, x, f, w, hx, f0, f1, w0, w1, hn => by
    by_cases h : x = 0
    · subst h
      rw [place_zero]
      refine ⟨fun v hv => ?_, fun hv => by cases hv⟩
      cases hv
      exact ⟨vi w, mWhile_end (by simp [t1_steps_place])⟩
    · cases n with
      | zero => simp at hx; omega
      | succ n =>
        have ht : t1_steps_place [vi x, vi f, vi w] = some (true, [vi x, vi f, vi w]) := by simp [t1_steps_place]; omega
        rw [place_pos h]
        by_cases c : x % 3 = 2
        · rw [if_pos c]
          have c' : (x : Int) % 3 = 2 := by omega
          exact ⟨fun v hv => by (cases hv), fun _ => ⟨_, mWhile_rt ht (by simp [b1_steps_place, c']; exact rfl)⟩⟩
        · rw [if_neg c]
          have pw : (2 : Int) ^ (150 - n) = 2 * 2 ^ (150 - (n + 1)) := by
            rw [show 150 - n = (150 - (n + 1)) + 1 by omega, Int.pow_succ]; omega
          have pb : (2 : Int) ^ (150 - (n + 1)) ≤ 2 ^ 150 := by
            have := Nat.pow_le_pow_right (n := 2) (by decide) (show 150 - (n + 1) ≤ 150 by omega)
            exact_mod_cast this
          have zw : w.natAbs < 2 ^ 200 := by omega
          have zx : ((x : Int) % 3).natAbs < 2 ^ 200 := by omega
          have c' : ¬ (x : Int) % 3 = 2 := by omega
          have dg : (x : Int) % 3 = 0 ∨ (x : Int) % 3 = 1 := by omega
          have g0 : 0 ≤ f + (x : Int) % 3 * w ∧ f + (x : Int) % 3 * w < 2 ^ (150 - n) := by rcases dg with e | e <;> rw [e] <;> omega
          obtain ⟨i1, i2⟩ := place_w n (x / 3) (f + (x : Int) % 3 * w) (2 * w) (by rw [Nat.pow_succ] at hx; omega) g0.1 g0.2 (by omega) (by omega) (by omega)
          have hb : b1_steps_place [vi x, vi f, vi w] = some (.nx [vi ((x / 3 : Nat) : Int), vi (f + (x : Int) % 3 * w), vi (2 * w)]) := by simp [b1_steps_place, c', zw, zx]
          refine ⟨fun v hv => ?_, fun hv => ?_⟩
          · rw [Option.map_eq_some_iff] at hv
            obtain ⟨u, hu, rfl⟩ := hv
            obtain ⟨w', hw⟩ := i1 u hu
            refine ⟨w', mWhile_go ht hb ?_⟩
            rw [hw]
            have e : f + (x : Int) % 3 * w + 2 * w * u = f + w * (((x % 3 : Nat) : Int) + 2 * u) := by
              rw [show ((x % 3 : Nat) : Int) = (x : Int) % 3 by omega]; grind
            rw [e]
          · rw [Option.map_eq_none_iff] at hv
            obtain ⟨e, he⟩ := i2 hv
            exact ⟨e, mWhile_go ht hb he⟩
end K37

namespace K37
open PySem PySem.Spec L2 Pv
/-! ### the rows, taken one by one -/
structure Way where
  nm : Str
  tab : List Nat
  lo : Nat
  fresh : List Nat → Nat → List Nat
  extra : List Nat → Nat → List Nat
  prs : Bool
namespace Way
variable (W : Way)
def pairs : Nat → List Nat
  | 0 => []
  | j + 1 => if W.prs = true then pairs j ++ W.fresh (W.tab.take j) (W.tab.getD j 0) else pairs j
def bar : Nat → List Nat
  | 0 => []
  | j + 1 => bar j ++ (W.extra (W.pairs j) (W.tab.getD j 0) ++ W.fresh (W.tab.take j) (W.tab.getD j 0))
def prev : Nat → Nat
  | 0 => W.lo
  | j + 1 => W.tab.getD j 0 + 1
def mask (l : List Nat) : Nat := l.foldl (fun m y => m ||| 1 <<< y) 0
def cert : Bool := decide (W.tab.length = 40) && (List.range 40).all fun j => let m := mask (W.bar j); !m.testBit (W.tab.getD j 0) && decide (W.prev j ≤ W.tab.getD j 0) && decide (W.tab.getD j 0 < 8990) && decide ((W.pairs j).length ≤ 1000) &&
  (List.range (W.tab.getD j 0 - W.prev j)).all fun i => m.testBit (W.prev j + i)
end Way
theorem mask_acc : ∀ (l : List Nat) (m y : Nat), (l.foldl (fun m y => m ||| 1 <<< y) m).testBit y = (m.testBit y || decide (y ∈ l))
  | [], m, y => by simp
  | x :: l, m, y => by
    simp only [List.foldl_cons]
    rw [mask_acc l]
    by_cases h : y = x
    · subst h
      have e : (1 <<< y).testBit y = true := by rw [Nat.one_shiftLeft, Nat.testBit_two_pow]; simp
      simp [e]
    · have h' : ¬ x = y := fun e => h e.symm
      have e : (1 <<< x).testBit y = false := by rw [Nat.one_shiftLeft, Nat.testBit_two_pow]; simp [h']
      simp [e, h]
theorem mask_bit (l : List Nat) (y : Nat) : (Way.mask l).testBit y = decide (y ∈ l) := by
  unfold Way.mask; rw [mask_acc]; simp
structure Cert (W : Way) : Prop where
  len : W.tab.length = 40
  free : ∀ j, j < 40 → W.tab.getD j 0 ∉ W.bar j
  prev : ∀ j, j < 40 → W.prev j ≤ W.tab.getD j 0
  low : ∀ j, j < 40 → W.tab.getD j 0 < 8990
  small : ∀ j, j < 40 → (W.pairs j).length ≤ 1000
  bars : ∀ j, j < 40 → ∀ x, W.prev j ≤ x → x < W.tab.getD j 0 → x ∈ W.bar j
theorem cert_of {W : Way} (h : W.cert = true) : Cert W := by
  simp only [Way.cert, Bool.and_eq_true, decide_eq_true_eq, List.all_eq_true, List.mem_range, mask_bit, Bool.not_eq_true', decide_eq_false_iff_not] at h
  obtain ⟨h0, h⟩ := h
  refine ⟨h0, fun j hj => (h j hj).1.1.1.1, fun j hj => (h j hj).1.1.1.2, fun j hj => (h j hj).1.1.2, fun j hj => (h j hj).1.2, fun j hj x h1 h2 => ?_⟩
  have := (h j hj).2 (x - W.prev j) (by omega)
  rwa [show W.prev j + (x - W.prev j) = x by omega] at this
/-- the frame -/
abbrev GF (n : Int) (w : Str) (tk : List Nat) (kvs : List (Key × O)) (ps : List Nat) (x s6 s7 s8 : Sl) : Pv.Env := [vi n, vd (.str w), .wr (.own (nO tk)), .wr (.odic kvs), vd (.list (nD ps)), x, s6, s7, s8, .emp]
/-- a step of this way -/
def StepOk (W : Way) : Prop := ∀ (n : Int) (tk ps bs : List Nat) (kvs : List (Key × O)) (x : Nat) (s6 s7 s8 : Sl), (tk.length : Int) ≠ n → tk.length ≤ 40 → ps.length ≤ 1000 → kvs.length ≤ 100000 → Has kvs (InB bs) → ¬ InB bs x → x < 9000 → (∀ a ∈ tk, a ≤ x) →
  ∃ kvs' y6 y7 y8, b1_u_law_going (GF n W.nm tk kvs ps (vi x) s6 s7 s8) = some (.nx (GF n W.nm (tk ++ [x]) kvs' (if W.prs = true then ps ++ W.fresh tk x else ps) (vi x) y6 y7 y8)) ∧ kvs'.length ≤ kvs.length + ps.length + 50 ∧ Has kvs' (InB (bs ++ (W.extra ps x ++ W.fresh tk x)))
theorem going_stop (n : Int) (w : Str) (tk ps : List Nat) (kvs : List (Key × O)) (x : Nat) (s6 s7 s8 : Sl) (h : (tk.length : Int) = n) : b1_u_law_going (GF n w tk kvs ps (vi x) s6 s7 s8) = some (.bk (GF n w tk kvs ps (vi x) s6 s7 s8)) := by
  exact seq_bk (ifS_t (e := GF n w tk kvs ps (vi x) s6 s7 s8) (by simp [nO, h]) rfl)
theorem going_skip (n : Int) (w : Str) (tk ps : List Nat) (kvs : List (Key × O)) (x : Nat) (s6 s7 s8 : Sl) (h : (tk.length : Int) ≠ n) (hk : (getO kvs (.inl (x : Int))).isSome = true) : b1_u_law_going (GF n w tk kvs ps (vi x) s6 s7 s8) = some (.ct (GF n w tk kvs ps (vi x) s6 s7 s8)) := by
  refine seq_nx (e := GF n w tk kvs ps (vi x) s6 s7 s8) (ifS_f (e := GF n w tk kvs ps (vi x) s6 s7 s8) (by simp [nO, h]) rfl) ?_
  exact seq_ct (ifS_t (e := GF n w tk kvs ps (vi x) s6 s7 s8) (by simp [fIn, fInB, hk]) rfl)
theorem take_succ {l : List Nat} {j : Nat} (h : j < l.length) : l.take (j + 1) = l.take j ++ [l.getD j 0] := by
  rw [List.take_succ, List.getD_eq_getElem?_getD]
  simp [h]
theorem tab_mono {W : Way} (C : Cert W) : ∀ (j : Nat), j ≤ 40 → ∀ a ∈ W.tab.take j, a < W.prev j
  | 0, _, a, h => by simp at h
  | j + 1, hj, a, h => by
    rw [take_succ (by rw [C.len]; omega)] at h
    have p := C.prev j (by omega)
    rcases List.mem_append.mp h with h | h
    · have := tab_mono C j (by omega) a h
      show a < W.tab.getD j 0 + 1
      omega
    · simp at h; subst h; show _ < _ + 1; simp
theorem going_loop {W : Way} (C : Cert W) (S : StepOk W) (n : Nat) (hn : n ≤ 40) : ∀ (m j x : Nat) (kvs : List (Key × O)) (x0 s6 s7 s8 : Sl), 9000 - x = m → j ≤ n → W.prev j ≤ x → (j < 40 → x ≤ W.tab.getD j 0) → x ≤ 8990 → kvs.length ≤ 2000 * j → Has kvs (InB (W.bar j)) →
    ∃ kvs' y0 y6 y7 y8, forL (fName 5) b1_u_law_going (rangeD x 9000) (GF n W.nm (W.tab.take j) kvs (W.pairs j) x0 s6 s7 s8) = some (.nx (GF n W.nm (W.tab.take n) kvs' (W.pairs n) y0 y6 y7 y8)) := by
  intro m
  induction m with
  | zero => intro j x kvs x0 s6 s7 s8 hm hj hp hx hx2; omega
  | succ m ih =>
    intro j x kvs x0 s6 s7 s8 hm hj hp hx hx2 hk hH
    rw [rangeD_cons (by omega)]
    have tl : (W.tab.take j).length = j := by rw [List.length_take, C.len]; omega
    have f1 : fName 5 (.int (x : Int)) (GF n W.nm (W.tab.take j) kvs (W.pairs j) x0 s6 s7 s8) = some (GF n W.nm (W.tab.take j) kvs (W.pairs j) (vi x) s6 s7 s8) := by simp
    have e1 : ((x : Int) + 1) = ((x + 1 : Nat) : Int) := by omega
    by_cases c : j = n
    · subst c
      exact ⟨kvs, vi x, s6, s7, s8, by
        simp only [forL, f1, Option.bind_some, going_stop (j : Int) W.nm (W.tab.take j) (W.pairs j) kvs x s6 s7 s8 (by rw [tl])]⟩
    · have hj40 : j < 40 := by omega
      have ne : ((W.tab.take j).length : Int) ≠ (n : Int) := by rw [tl]; omega
      have lx := hx hj40
      have low := C.low j hj40
      by_cases d : x < W.tab.getD j 0
      · have inb : InB (W.bar j) (x : Int) := ⟨x, C.bars j hj40 x hp d, rfl⟩
        obtain ⟨kvs', y0, t6, t7, t8, h⟩ := ih j (x + 1) kvs (vi x) s6 s7 s8 (by omega) hj (by omega) (fun _ => by omega) (by omega) hk hH
        refine ⟨kvs', y0, t6, t7, t8, ?_⟩
        simp only [forL, f1, Option.bind_some, going_skip (n : Int) W.nm (W.tab.take j) (W.pairs j) kvs x s6 s7 s8 ne (hH.isT inb)]
        rw [e1]; exact h
      · obtain rfl : x = W.tab.getD j 0 := by omega
        have ninb : ¬ InB (W.bar j) ((W.tab.getD j 0 : Nat) : Int) := by
          rintro ⟨y, hy, e⟩
          have : W.tab.getD j 0 = y := by omega
          exact C.free j hj40 (this ▸ hy)
        obtain ⟨kvs1, t6, t7, t8, h1, h2, h3⟩ := S n (W.tab.take j) (W.pairs j) (W.bar j) kvs (W.tab.getD j 0) s6 s7 s8 ne (by omega) (C.small j hj40) (by omega) hH ninb (by omega) (fun a ha => by have := tab_mono C j (by omega) a ha; omega)
        rw [← take_succ (by rw [C.len]; omega)] at h1
        have hpl' := C.small j hj40
        obtain ⟨kvs', y0, u6, u7, u8, h⟩ := ih (j + 1) (W.tab.getD j 0 + 1) kvs1 (vi (W.tab.getD j 0)) t6 t7 t8 (by omega) (by omega) (Nat.le_refl _) (fun q => C.prev (j + 1) q) (by omega) (by omega) h3
        refine ⟨kvs', y0, u6, u7, u8, ?_⟩
        simp only [forL, f1, Option.bind_some, h1]
        rw [e1]; exact h
end K37

namespace K37
open PySem PySem.Spec L2 Pv
def W1 : Way := ⟨"steps", [0, 1, 3, 4, 9, 10, 12, 13, 27, 28, 30, 31, 36, 37, 39, 40, 81, 82, 84, 85, 90, 91, 93, 94, 108, 109, 111, 112, 117, 118, 120, 121, 243, 244, 246, 247, 252, 253, 255, 256], 0, fun tk x => tk.map fun a => 2 * x - a, fun _ _ => [], false⟩
def W2 : Way := ⟨"once", [1, 2, 4, 7, 10, 13, 16, 19, 22, 25, 28, 31, 34, 37, 40, 43, 46, 49, 52, 55, 58, 61, 64, 67, 70, 73, 76, 79, 82, 85, 88, 91, 94, 97, 100, 103, 106, 109, 112, 115], 1, fun tk x => tk.map fun a => a + x, fun _ _ => [], false⟩
def W3 : Way := ⟨"twice", [1, 3, 5, 7, 9, 11, 13, 15, 17, 19, 21, 23, 25, 27, 29, 31, 33, 35, 37, 39, 41, 43, 45, 47, 49, 51, 53, 55, 57, 59, 61, 63, 65, 67, 69, 71, 73, 75, 77, 79], 1, fun tk x => (tk.map fun a => a + x) ++ [2 * x], fun _ _ => [], false⟩
def W4 : Way := ⟨"carries", [1, 2, 4, 7, 8, 11, 13, 14, 16, 19, 21, 22, 25, 26, 28, 31, 32, 35, 37, 38, 41, 42, 44, 47, 49, 50, 52, 55, 56, 59, 61, 62, 64, 67, 69, 70, 73, 74, 76, 79], 1, fun tk x => tk.map fun a => a ^^^ x, fun _ _ => [], true⟩
def W5 : Way := ⟨"fours", [1, 2, 4, 8, 15, 16, 32, 51, 64, 85, 106, 128, 150, 171, 219, 237, 247, 256, 279, 297, 455, 512, 537, 557, 594, 643, 803, 863, 998, 1024, 1051, 1070, 1112, 1169, 1333, 1345, 1620, 1866, 2048, 2076], 1, fun tk x => tk.map fun a => a ^^^ x, fun ps x => ps.map fun b => b ^^^ x, true⟩
theorem C1 : Cert W1 := cert_of (by decide +kernel)
theorem C2 : Cert W2 := cert_of (by decide +kernel)
theorem C3 : Cert W3 := cert_of (by decide +kernel)
theorem C4 : Cert W4 := cert_of (by decide +kernel)
theorem C5 : Cert W5 := cert_of (by decide +kernel)
end K37

namespace K37
open PySem PySem.Spec L2 Pv
/-- the items of fresh are put down, x is taken -/
theorem going_tail (n : Int) (w : Str) (tk ps bs fr : List Nat) (kvs : List (Key × O)) (x : Nat) (s7 s8 : Sl) (h1 : tk.length ≤ 40) (h2 : fr.length ≤ 100) (h3 : kvs.length ≤ 200000) (hH : Has kvs (InB bs)) :
    ∃ kvs' s8', mSeq (mFor (mItems (mVar 6)) (fName 8) b6_u_law_going) (mExpr (mMeth 2 lAppend (mCons (mVar 5) mNil))) (GF n w tk kvs ps (vi x) (vd (.list (nD fr))) s7 s8) = some (.nx (GF n w (tk ++ [x]) kvs' ps (vi x) (vd (.list (nD fr))) s7 s8')) ∧
      kvs'.length ≤ kvs.length + fr.length ∧ Has kvs' (InB (bs ++ fr)) := by
  obtain ⟨kvs', s', q1, q2, q3, _⟩ := forL_keys (f := fName 8) (body := b6_u_law_going) (fun kvs s => GF n w tk kvs ps (vi x) (vd (.list (nD fr))) s7 s) num (nD fr) kvs s8 (by
    intro d hd kvs s l1 l2
    obtain ⟨a, ha, rfl⟩ := mem_nD.mp hd
    exact ⟨vi a, by simp [b6_u_law_going, num, l1, l2] at l2 ⊢ <;> exact l2⟩) (by rw [len_nD]; omega)
  refine ⟨kvs', s', ?_, by rw [len_nD] at q2; exact q2, (q3 _ hH).congr fun y => ?_⟩
  · refine seq_nx (e := GF n w tk kvs' ps (vi x) (vd (.list (nD fr))) s7 s') (by simp [itemsO, q1]) ?_
    have : tk.length < 16777216 := by omega
    simp [nO, this]
  · unfold InB
    constructor
    · rintro (⟨z, hz, e⟩ | ⟨d, hd, e⟩)
      · exact ⟨z, by simp [hz], e⟩
      · obtain ⟨a, ha, rfl⟩ := mem_nD.mp hd
        exact ⟨a, by simp [ha], e⟩
    · rintro ⟨z, hz, e⟩
      rcases List.mem_append.mp hz with hz | hz
      · exact .inl ⟨z, hz, e⟩
      · exact .inr ⟨.int z, mem_nD.mpr ⟨z, hz, rfl⟩, e⟩
/-- the same list, held -/
abbrev GR (n : Int) (w : Str) (tk : List Nat) (kvs : List (Key × O)) (ps : List Nat) (x s6 s7 s8 : Sl) : Pv.Env := [vi n, vd (.str w), .rd (.own (nO tk)), .wr (.odic kvs), vd (.list (nD ps)), x, s6, s7, s8, .emp]
theorem lc_going {te : ME} (n : Int) (w : Str) (tk ps : List Nat) (kvs : List (Key × O)) (x : Nat) (s6 s7 s8 : Sl) (g : Int → Int) (hl : tk.length ≤ 40)
    (he : ∀ a : Nat, a ∈ tk → te [vi n, vd (.str w), .rd (.own (nO tk)), .wr (.odic kvs), vd (.list (nD ps)), vi x, s6, s7, s8, vi a] = some (.tmp (oi (g a)), [vi n, vd (.str w), .rd (.own (nO tk)), .wr (.odic kvs), vd (.list (nD ps)), vi x, s6, s7, s8, vi a])) :
    mLockE 2 (mComp (mItems (mVar 2)) (fName 9) mYes te takeF [9]) (GF n w tk kvs ps (vi x) s6 s7 s8) = some (.tmp (.own (((nD tk).map (onD g)).map .val)), GF n w tk kvs ps (vi x) s6 s7 s8) := by
  have lc := lcL_map (f := fName 9) (tt := mYes) (te := te) (tk := takeF) (vs := [9]) (env := GR n w tk kvs ps (vi x) s6 s7 s8) (onD g) (nD tk) [] (by
    intro d hd
    obtain ⟨a, ha, rfl⟩ := mem_nD.mp hd
    exact ⟨_, _, _, _, (by simp : fName 9 (.int (a : Int)) (GR n w tk kvs ps (vi x) s6 s7 s8) = some [vi n, vd (.str w), .rd (.own (nO tk)), .wr (.odic kvs), vd (.list (nD ps)), vi x, s6, s7, s8, vi a]), rfl, he a ha, (by simp [onD] : takeF (.tmp (oi (g a))) [vi n, vd (.str w), .rd (.own (nO tk)), .wr (.odic kvs), vd (.list (nD ps)), vi x, s6, s7, s8, vi a] = some (.val (onD g (.int (a : Int))), [vi n, vd (.str w), .rd (.own (nO tk)), .wr (.odic kvs), vd (.list (nD ps)), vi x, s6, s7, s8, vi a])), by simp [wipeE]⟩) (by rw [len_nD]; simp; omega)
  simp at lc
  simp [mLockE, mComp, isClean, wipeE, restE, itemsO, vals_nO, lc]
theorem in_two (w a b : Str) (h : SeqAt.shaped (.str w) = true) (h2 : SeqAt.shaped (.list [.str a, .str b]) = true) : fIn [.val (.str w), .own [.val (.str a), .val (.str b)]] = some (.val (.bool (decide (a = w) || decide (b = w)))) := by
  simp [fIn, fInB, seqD, h, h2, eqv_ss]
theorem sh_ot : SeqAt.shaped (.list [.str "once", .str "twice"]) = true := by decide +kernel
theorem sh_steps : SeqAt.shaped (.str "steps") = true := shs _ (by decide +kernel)
theorem sh_once : SeqAt.shaped (.str "once") = true := shs _ (by decide +kernel)
theorem sh_twice : SeqAt.shaped (.str "twice") = true := shs _ (by decide +kernel)
theorem sh_carries : SeqAt.shaped (.str "carries") = true := shs _ (by decide +kernel)
theorem sh_fours : SeqAt.shaped (.str "fours") = true := shs _ (by decide +kernel)
theorem ne_steps_once : (Str.ofString "steps" = Str.ofString "once") = False := by simp only [eq_iff_iff, iff_false]; decide +kernel
theorem ne_steps_twice : (Str.ofString "steps" = Str.ofString "twice") = False := by simp only [eq_iff_iff, iff_false]; decide +kernel
theorem ne_steps_carries : (Str.ofString "steps" = Str.ofString "carries") = False := by simp only [eq_iff_iff, iff_false]; decide +kernel
theorem ne_steps_fours : (Str.ofString "steps" = Str.ofString "fours") = False := by simp only [eq_iff_iff, iff_false]; decide +kernel
theorem ne_once_steps : (Str.ofString "once" = Str.ofString "steps") = False := by simp only [eq_iff_iff, iff_false]; decide +kernel
theorem ne_once_twice : (Str.ofString "once" = Str.ofString "twice") = False := by simp only [eq_iff_iff, iff_false]; decide +kernel
theorem ne_once_carries : (Str.ofString "once" = Str.ofString "carries") = False := by simp only [eq_iff_iff, iff_false]; decide +kernel
theorem ne_once_fours : (Str.ofString "once" = Str.ofString "fours") = False := by simp only [eq_iff_iff, iff_false]; decide +kernel
theorem ne_twice_steps : (Str.ofString "twice" = Str.ofString "steps") = False := by simp only [eq_iff_iff, iff_false]; decide +kernel
theorem ne_twice_once : (Str.ofString "twice" = Str.ofString "once") = False := by simp only [eq_iff_iff, iff_false]; decide +kernel
theorem ne_twice_carries : (Str.ofString "twice" = Str.ofString "carries") = False := by simp only [eq_iff_iff, iff_false]; decide +kernel
theorem ne_twice_fours : (Str.ofString "twice" = Str.ofString "fours") = False := by simp only [eq_iff_iff, iff_false]; decide +kernel
theorem ne_carries_steps : (Str.ofString "carries" = Str.ofString "steps") = False := by simp only [eq_iff_iff, iff_false]; decide +kernel
theorem ne_carries_once : (Str.ofString "carries" = Str.ofString "once") = False := by simp only [eq_iff_iff, iff_false]; decide +kernel
theorem ne_carries_twice : (Str.ofString "carries" = Str.ofString "twice") = False := by simp only [eq_iff_iff, iff_false]; decide +kernel
theorem ne_carries_fours : (Str.ofString "carries" = Str.ofString "fours") = False := by simp only [eq_iff_iff, iff_false]; decide +kernel
theorem ne_fours_steps : (Str.ofString "fours" = Str.ofString "steps") = False := by simp only [eq_iff_iff, iff_false]; decide +kernel
theorem ne_fours_once : (Str.ofString "fours" = Str.ofString "once") = False := by simp only [eq_iff_iff, iff_false]; decide +kernel
theorem ne_fours_twice : (Str.ofString "fours" = Str.ofString "twice") = False := by simp only [eq_iff_iff, iff_false]; decide +kernel
theorem ne_fours_carries : (Str.ofString "fours" = Str.ofString "carries") = False := by simp only [eq_iff_iff, iff_false]; decide +kernel
theorem step1 : StepOk W1 := by
  intro n tk ps bs kvs x s6 s7 s8 hne htl hpl hkl hH hnb hx hle
  have hk := hH.isF hnb
  have z : x < 2 ^ 200 := by omega
  have zt : tk.length < 16777216 := by omega
  have zt2 : tk.length ≤ 16777216 := by omega
  have zt4 : tk.length ≤ 16777215 := by omega
  have zt3 : ps.length + tk.length ≤ 16777216 := by omega
  have lc := lc_going (te := e2_u_law_going) n "steps" tk ps kvs x s6 s7 s8 (fun a => 2 * x - a) htl (by intro a ha; simp [e2_u_law_going, z])
  rw [onD_nD (h := fun a => 2 * x - a) (e := fun a ha => by have := hle a ha; omega)] at lc
  obtain ⟨kvs', s8', q1, q2, q3⟩ := going_tail n "steps" tk ps bs (tk.map (fun a => 2 * x - a)) kvs x s7 s8 htl (by simp; omega) (by omega) hH
  refine ⟨kvs', vd (.list (nD (tk.map (fun a => 2 * x - a)))), s7, s8', ?_, ?_, q3⟩
  · show b1_u_law_going (GF n "steps" tk kvs ps (vi x) s6 s7 s8) = _
    refine seq_nx (e := GF n "steps" tk kvs ps (vi x) s6 s7 s8) (ifS_f (e := GF n "steps" tk kvs ps (vi x) s6 s7 s8) (by simp [nO, hne]) rfl) ?_
    refine seq_nx (e := GF n "steps" tk kvs ps (vi x) s6 s7 s8) (ifS_f (e := GF n "steps" tk kvs ps (vi x) s6 s7 s8) (by simp [fIn, fInB, hk]) rfl) ?_
    refine seq_nx (e := GF n "steps" tk kvs ps (vi x) (vd (.list (nD (tk.map (fun a => 2 * x - a))))) s7 s8) (ifS_t (e := GF n "steps" tk kvs ps (vi x) s6 s7 s8) (by simp) ?_) q1
    unfold c2_u_law_going
    simp [lc, itemsL, ne_steps_once, ne_steps_twice, ne_steps_carries, ne_steps_fours, ne_once_steps, ne_once_twice, ne_once_carries, ne_once_fours, ne_twice_steps, ne_twice_once, ne_twice_carries, ne_twice_fours, ne_carries_steps, ne_carries_once, ne_carries_twice, ne_carries_fours, ne_fours_steps, ne_fours_once, ne_fours_twice, ne_fours_carries, z, zt, zt2, zt4, nD_append, nD_one]
  · simp at q2; omega
theorem step2 : StepOk W2 := by
  intro n tk ps bs kvs x s6 s7 s8 hne htl hpl hkl hH hnb hx hle
  have hk := hH.isF hnb
  have z : x < 2 ^ 200 := by omega
  have zt : tk.length < 16777216 := by omega
  have zt2 : tk.length ≤ 16777216 := by omega
  have zt4 : tk.length ≤ 16777215 := by omega
  have zt3 : ps.length + tk.length ≤ 16777216 := by omega
  have lc := lc_going (te := e3_u_law_going) n "once" tk ps kvs x s6 s7 s8 (fun a => a + x) htl (by intro a ha; simp [e3_u_law_going, z])
  rw [onD_nD (h := fun a => a + x) (e := fun a ha => by omega)] at lc
  obtain ⟨kvs', s8', q1, q2, q3⟩ := going_tail n "once" tk ps bs (tk.map (fun a => a + x)) kvs x s7 s8 htl (by simp; omega) (by omega) hH
  refine ⟨kvs', vd (.list (nD (tk.map (fun a => a + x)))), s7, s8', ?_, ?_, q3⟩
  · show b1_u_law_going (GF n "once" tk kvs ps (vi x) s6 s7 s8) = _
    refine seq_nx (e := GF n "once" tk kvs ps (vi x) s6 s7 s8) (ifS_f (e := GF n "once" tk kvs ps (vi x) s6 s7 s8) (by simp [nO, hne]) rfl) ?_
    refine seq_nx (e := GF n "once" tk kvs ps (vi x) s6 s7 s8) (ifS_f (e := GF n "once" tk kvs ps (vi x) s6 s7 s8) (by simp [fIn, fInB, hk]) rfl) ?_
    refine seq_nx (e := GF n "once" tk kvs ps (vi x) (vd (.list (nD (tk.map (fun a => a + x))))) s7 s8) (ifS_f (e := GF n "once" tk kvs ps (vi x) s6 s7 s8) (by simp [ne_steps_once, ne_steps_twice, ne_steps_carries, ne_steps_fours, ne_once_steps, ne_once_twice, ne_once_carries, ne_once_fours, ne_twice_steps, ne_twice_once, ne_twice_carries, ne_twice_fours, ne_carries_steps, ne_carries_once, ne_carries_twice, ne_carries_fours, ne_fours_steps, ne_fours_once, ne_fours_twice, ne_fours_carries]) (ifS_t (e := GF n "once" tk kvs ps (vi x) s6 s7 s8) (by simp [in_two, sh_once, sh_ot, ne_steps_once, ne_steps_twice, ne_steps_carries, ne_steps_fours, ne_once_steps, ne_once_twice, ne_once_carries, ne_once_fours, ne_twice_steps, ne_twice_once, ne_twice_carries, ne_twice_fours, ne_carries_steps, ne_carries_once, ne_carries_twice, ne_carries_fours, ne_fours_steps, ne_fours_once, ne_fours_twice, ne_fours_carries]) ?_)) q1
    unfold c3_u_law_going
    simp [lc, itemsL, ne_steps_once, ne_steps_twice, ne_steps_carries, ne_steps_fours, ne_once_steps, ne_once_twice, ne_once_carries, ne_once_fours, ne_twice_steps, ne_twice_once, ne_twice_carries, ne_twice_fours, ne_carries_steps, ne_carries_once, ne_carries_twice, ne_carries_fours, ne_fours_steps, ne_fours_once, ne_fours_twice, ne_fours_carries, z, zt, zt2, zt4, nD_append, nD_one]
  · simp at q2; omega
theorem step3 : StepOk W3 := by
  intro n tk ps bs kvs x s6 s7 s8 hne htl hpl hkl hH hnb hx hle
  have hk := hH.isF hnb
  have z : x < 2 ^ 200 := by omega
  have zt : tk.length < 16777216 := by omega
  have zt2 : tk.length ≤ 16777216 := by omega
  have zt4 : tk.length ≤ 16777215 := by omega
  have zt3 : ps.length + tk.length ≤ 16777216 := by omega
  have lc := lc_going (te := e3_u_law_going) n "twice" tk ps kvs x s6 s7 s8 (fun a => a + x) htl (by intro a ha; simp [e3_u_law_going, z])
  rw [onD_nD (h := fun a => a + x) (e := fun a ha => by omega)] at lc
  obtain ⟨kvs', s8', q1, q2, q3⟩ := going_tail n "twice" tk ps bs (tk.map (fun a => a + x) ++ [2 * x]) kvs x s7 s8 htl (by simp; omega) (by omega) hH
  refine ⟨kvs', vd (.list (nD (tk.map (fun a => a + x) ++ [2 * x]))), s7, s8', ?_, ?_, q3⟩
  · show b1_u_law_going (GF n "twice" tk kvs ps (vi x) s6 s7 s8) = _
    refine seq_nx (e := GF n "twice" tk kvs ps (vi x) s6 s7 s8) (ifS_f (e := GF n "twice" tk kvs ps (vi x) s6 s7 s8) (by simp [nO, hne]) rfl) ?_
    refine seq_nx (e := GF n "twice" tk kvs ps (vi x) s6 s7 s8) (ifS_f (e := GF n "twice" tk kvs ps (vi x) s6 s7 s8) (by simp [fIn, fInB, hk]) rfl) ?_
    refine seq_nx (e := GF n "twice" tk kvs ps (vi x) (vd (.list (nD (tk.map (fun a => a + x) ++ [2 * x])))) s7 s8) (ifS_f (e := GF n "twice" tk kvs ps (vi x) s6 s7 s8) (by simp [ne_steps_once, ne_steps_twice, ne_steps_carries, ne_steps_fours, ne_once_steps, ne_once_twice, ne_once_carries, ne_once_fours, ne_twice_steps, ne_twice_once, ne_twice_carries, ne_twice_fours, ne_carries_steps, ne_carries_once, ne_carries_twice, ne_carries_fours, ne_fours_steps, ne_fours_once, ne_fours_twice, ne_fours_carries]) (ifS_t (e := GF n "twice" tk kvs ps (vi x) s6 s7 s8) (by simp [in_two, sh_twice, sh_ot, ne_steps_once, ne_steps_twice, ne_steps_carries, ne_steps_fours, ne_once_steps, ne_once_twice, ne_once_carries, ne_once_fours, ne_twice_steps, ne_twice_once, ne_twice_carries, ne_twice_fours, ne_carries_steps, ne_carries_once, ne_carries_twice, ne_carries_fours, ne_fours_steps, ne_fours_once, ne_fours_twice, ne_fours_carries]) ?_)) q1
    unfold c3_u_law_going
    simp [lc, itemsL, ne_steps_once, ne_steps_twice, ne_steps_carries, ne_steps_fours, ne_once_steps, ne_once_twice, ne_once_carries, ne_once_fours, ne_twice_steps, ne_twice_once, ne_twice_carries, ne_twice_fours, ne_carries_steps, ne_carries_once, ne_carries_twice, ne_carries_fours, ne_fours_steps, ne_fours_once, ne_fours_twice, ne_fours_carries, z, zt, zt2, zt4, nD_append, nD_one]
  · simp at q2; omega
theorem step4 : StepOk W4 := by
  intro n tk ps bs kvs x s6 s7 s8 hne htl hpl hkl hH hnb hx hle
  have hk := hH.isF hnb
  have z : x < 2 ^ 200 := by omega
  have zt : tk.length < 16777216 := by omega
  have zt2 : tk.length ≤ 16777216 := by omega
  have zt4 : tk.length ≤ 16777215 := by omega
  have zt3 : ps.length + tk.length ≤ 16777216 := by omega
  have lc := lc_going (te := e4_u_law_going) n "carries" tk ps kvs x s6 s7 s8 (fun a => Builtin.bitXor a x) htl (by intro a ha; simp [e4_u_law_going, z])
  rw [onD_nD (h := fun a => a ^^^ x) (e := fun a ha => by simp)] at lc
  obtain ⟨kvs', s8', q1, q2, q3⟩ := going_tail n "carries" tk (ps ++ (tk.map (fun a => a ^^^ x))) bs (tk.map (fun a => a ^^^ x)) kvs x s7 s8 htl (by simp; omega) (by omega) hH
  refine ⟨kvs', vd (.list (nD (tk.map (fun a => a ^^^ x)))), s7, s8', ?_, ?_, q3⟩
  · show b1_u_law_going (GF n "carries" tk kvs ps (vi x) s6 s7 s8) = _
    refine seq_nx (e := GF n "carries" tk kvs ps (vi x) s6 s7 s8) (ifS_f (e := GF n "carries" tk kvs ps (vi x) s6 s7 s8) (by simp [nO, hne]) rfl) ?_
    refine seq_nx (e := GF n "carries" tk kvs ps (vi x) s6 s7 s8) (ifS_f (e := GF n "carries" tk kvs ps (vi x) s6 s7 s8) (by simp [fIn, fInB, hk]) rfl) ?_
    refine seq_nx (e := GF n "carries" tk kvs (ps ++ (tk.map (fun a => a ^^^ x))) (vi x) (vd (.list (nD (tk.map (fun a => a ^^^ x))))) s7 s8) (ifS_f (e := GF n "carries" tk kvs ps (vi x) s6 s7 s8) (by simp [ne_steps_once, ne_steps_twice, ne_steps_carries, ne_steps_fours, ne_once_steps, ne_once_twice, ne_once_carries, ne_once_fours, ne_twice_steps, ne_twice_once, ne_twice_carries, ne_twice_fours, ne_carries_steps, ne_carries_once, ne_carries_twice, ne_carries_fours, ne_fours_steps, ne_fours_once, ne_fours_twice, ne_fours_carries]) (ifS_f (e := GF n "carries" tk kvs ps (vi x) s6 s7 s8) (by simp [in_two, sh_carries, sh_ot, ne_steps_once, ne_steps_twice, ne_steps_carries, ne_steps_fours, ne_once_steps, ne_once_twice, ne_once_carries, ne_once_fours, ne_twice_steps, ne_twice_once, ne_twice_carries, ne_twice_fours, ne_carries_steps, ne_carries_once, ne_carries_twice, ne_carries_fours, ne_fours_steps, ne_fours_once, ne_fours_twice, ne_fours_carries]) ?_)) q1
    refine seq_nx (e := GF n "carries" tk kvs ps (vi x) (vd (.list (nD (tk.map (fun a => a ^^^ x))))) s7 s8) (by unfold c4_u_law_going; simp [lc]) ?_
    refine seq_nx (e := GF n "carries" tk kvs ps (vi x) (vd (.list (nD (tk.map (fun a => a ^^^ x))))) s7 s8) (by simp [itemsO, forL, ne_steps_once, ne_steps_twice, ne_steps_carries, ne_steps_fours, ne_once_steps, ne_once_twice, ne_once_carries, ne_once_fours, ne_twice_steps, ne_twice_once, ne_twice_carries, ne_twice_fours, ne_carries_steps, ne_carries_once, ne_carries_twice, ne_carries_fours, ne_fours_steps, ne_fours_once, ne_fours_twice, ne_fours_carries]) ?_
    simp [itemsL, nD_append, zt3]
  · simp at q2; omega
theorem step5 : StepOk W5 := by
  intro n tk ps bs kvs x s6 s7 s8 hne htl hpl hkl hH hnb hx hle
  have hk := hH.isF hnb
  have z : x < 2 ^ 200 := by omega
  have zt : tk.length < 16777216 := by omega
  have zt2 : tk.length ≤ 16777216 := by omega
  have zt4 : tk.length ≤ 16777215 := by omega
  have zt3 : ps.length + tk.length ≤ 16777216 := by omega
  have lc := lc_going (te := e4_u_law_going) n "fours" tk ps kvs x s6 s7 s8 (fun a => Builtin.bitXor a x) htl (by intro a ha; simp [e4_u_law_going, z])
  rw [onD_nD (h := fun a => a ^^^ x) (e := fun a ha => by simp)] at lc
  obtain ⟨kv1, t7, p1, p2, p3, _⟩ := forL_keys (f := fName 7) (body := b5_u_law_going) (fun kvs s => GF n "fours" tk kvs ps (vi x) (vd (.list (nD (tk.map (fun a => a ^^^ x))))) s s8) (fun d => Builtin.bitXor (num d) x) (nD ps) kvs s7 (by
    intro d hd kvs s l1 l2
    obtain ⟨a, ha, rfl⟩ := mem_nD.mp hd
    exact ⟨vi a, by simp [b5_u_law_going, num, l1, l2] at l2 ⊢ <;> exact l2⟩) (by rw [len_nD]; omega)
  rw [len_nD] at p2
  have hH1 : Has kv1 (InB (bs ++ ps.map fun b => b ^^^ x)) := (p3 _ hH).congr fun y => by
    unfold InB
    constructor
    · rintro (⟨u, hu, e⟩ | ⟨d, hd, e⟩)
      · exact ⟨u, by simp [hu], e⟩
      · obtain ⟨a, ha, rfl⟩ := mem_nD.mp hd
        exact ⟨a ^^^ x, by simp; exact .inr ⟨a, ha, rfl⟩, by rw [e]; simp [num]⟩
    · rintro ⟨u, hu, e⟩
      rcases List.mem_append.mp hu with hu | hu
      · exact .inl ⟨u, hu, e⟩
      · obtain ⟨a, ha, rfl⟩ := List.mem_map.mp hu
        exact .inr ⟨.int a, mem_nD.mpr ⟨a, ha, rfl⟩, by rw [e]; simp [num]⟩
  obtain ⟨kvs', s8', q1, q2, q3⟩ := going_tail n "fours" tk (ps ++ (tk.map (fun a => a ^^^ x))) (bs ++ ps.map fun b => b ^^^ x) (tk.map (fun a => a ^^^ x)) kv1 x t7 s8 htl (by simp; omega) (by omega) hH1
  refine ⟨kvs', vd (.list (nD (tk.map (fun a => a ^^^ x)))), t7, s8', ?_, ?_, by rw [List.append_assoc] at q3; exact q3⟩
  · show b1_u_law_going (GF n "fours" tk kvs ps (vi x) s6 s7 s8) = _
    refine seq_nx (e := GF n "fours" tk kvs ps (vi x) s6 s7 s8) (ifS_f (e := GF n "fours" tk kvs ps (vi x) s6 s7 s8) (by simp [nO, hne]) rfl) ?_
    refine seq_nx (e := GF n "fours" tk kvs ps (vi x) s6 s7 s8) (ifS_f (e := GF n "fours" tk kvs ps (vi x) s6 s7 s8) (by simp [fIn, fInB, hk]) rfl) ?_
    refine seq_nx (e := GF n "fours" tk kv1 (ps ++ (tk.map (fun a => a ^^^ x))) (vi x) (vd (.list (nD (tk.map (fun a => a ^^^ x))))) t7 s8) (ifS_f (e := GF n "fours" tk kvs ps (vi x) s6 s7 s8) (by simp [ne_steps_once, ne_steps_twice, ne_steps_carries, ne_steps_fours, ne_once_steps, ne_once_twice, ne_once_carries, ne_once_fours, ne_twice_steps, ne_twice_once, ne_twice_carries, ne_twice_fours, ne_carries_steps, ne_carries_once, ne_carries_twice, ne_carries_fours, ne_fours_steps, ne_fours_once, ne_fours_twice, ne_fours_carries]) (ifS_f (e := GF n "fours" tk kvs ps (vi x) s6 s7 s8) (by simp [in_two, sh_fours, sh_ot, ne_steps_once, ne_steps_twice, ne_steps_carries, ne_steps_fours, ne_once_steps, ne_once_twice, ne_once_carries, ne_once_fours, ne_twice_steps, ne_twice_once, ne_twice_carries, ne_twice_fours, ne_carries_steps, ne_carries_once, ne_carries_twice, ne_carries_fours, ne_fours_steps, ne_fours_once, ne_fours_twice, ne_fours_carries]) ?_)) q1
    refine seq_nx (e := GF n "fours" tk kvs ps (vi x) (vd (.list (nD (tk.map (fun a => a ^^^ x))))) s7 s8) (by unfold c4_u_law_going; simp [lc]) ?_
    refine seq_nx (e := GF n "fours" tk kv1 ps (vi x) (vd (.list (nD (tk.map (fun a => a ^^^ x))))) t7 s8) (by simp [itemsO, ne_steps_once, ne_steps_twice, ne_steps_carries, ne_steps_fours, ne_once_steps, ne_once_twice, ne_once_carries, ne_once_fours, ne_twice_steps, ne_twice_once, ne_twice_carries, ne_twice_fours, ne_carries_steps, ne_carries_once, ne_carries_twice, ne_carries_fours, ne_fours_steps, ne_fours_once, ne_fours_twice, ne_fours_carries, p1]) ?_
    simp [itemsL, nD_append, zt3]
  · simp at q2; omega
end K37

namespace K37
open PySem PySem.Spec L2 Pv
/-- the first n of a row -/
def rowT (W : Way) (n : Nat) : D := .tuple (nD (W.tab.take n))
theorem going_fn {W : Way} (C : Cert W) (S : StepOk W) (hlo : W.lo = if W.nm = "steps" then 0 else 1) (hs : SeqAt.shaped (.str W.nm) = true) {n : Nat} (hn : n ≤ 40) : F_u_law_going [vi n, vd (.str W.nm)] = some (.val (rowT W n), [.emp, .emp]) := by
  have hl : W.lo ≤ 8990 := by rw [hlo]; split <;> omega
  obtain ⟨kvs', y0, y6, y7, y8, h⟩ := going_loop C S n hn (9000 - W.lo) 0 W.lo [] .emp .emp .emp .emp rfl (by omega) (Nat.le_refl _) (fun _ => C.prev 0 (by decide)) hl (by simp) (Has.nil.congr fun x => by simp [InB, Way.bar])
  have hn' : (nO (W.tab.take n)).length ≤ 16777216 := by simp; omega
  have e : (if W.nm = Str.ofString "steps" then (0 : Int) else 1) = W.lo := by rw [hlo]; split <;> rfl
  have h2 : m_u_law_going [vi n, vd (.str W.nm), .emp, .emp, .emp, .emp, .emp, .emp, .emp, .emp] = some (.rt (.val (rowT W n)) (GF n W.nm (W.tab.take n) kvs' (W.pairs n) y0 y6 y7 y8)) := by
    refine seq_nx (e := [vi n, vd (.str W.nm), .wr (.own []), .wr (.odic []), vd (.list []), .emp, .emp, .emp, .emp, .emp]) (by simp [mDic]) ?_
    refine seq_nx (e := GF n W.nm (W.tab.take n) kvs' (W.pairs n) y0 y6 y7 y8) ?_ ?_
    · have hr : mRange2 (mCons (mIfE (mTst (mBin fEq (mVar 1) (mC (.str "steps")))) (mC (.int 0)) (mC (.int 1))) (mCons (mC (.int 9000)) mNil)) (GF n W.nm [] [] [] .emp .emp .emp .emp) = some (rangeD W.lo 9000, GF n W.nm [] [] [] .emp .emp .emp .emp) := by
        by_cases c : W.nm = Str.ofString "steps"
        · rw [if_pos c] at e
          rw [← e]
          simp [c, small62]
        · rw [if_neg c] at e
          rw [← e]
          simp [c, small62]
      simp only [mFor]
      show (mRange2 _ (GF n W.nm [] [] [] .emp .emp .emp .emp)).bind _ = _
      rw [hr]
      exact h
    · simp [rowT, itemsO]
  simp [F_u_law_going, h2]

/-! ### the package's rows -/
def ternF : Nat → Nat → Int
  | 0, _ => 0
  | n + 1, k => if k = 0 then 0 else ((k % 2 : Nat) : Int) + 3 * ternF n (k / 2)
theorem ternF_eq : ∀ (n k : Nat), k < 2 ^ n → ternF n k = tern k
  | 0, k, h => by
    have : k = 0 := by simpa using h
    subst this; rw [tern_zero]; rfl
  | n + 1, k, h => by
    by_cases c : k = 0
    · subst c; rw [tern_zero]; rfl
    · rw [tern_pos c, ternF, if_neg c, ternF_eq n (k / 2) (by rw [Nat.pow_succ] at h; omega)]
theorem row_of {W : Way} {g : Int → Int} (h : ∀ n, n < 41 → (List.range n).map (fun i : Nat => g i) = (W.tab.take n).map fun x : Nat => (x : Int)) {n : Nat} (hn : n ≤ 40) : (rangeD 0 n).map (onD g) = nD (W.tab.take n) := by
  have := congrArg (List.map PyData.int) (h n (by omega))
  simpa [rangeD, nD, Function.comp_def, onD] using this
theorem take_ex (W : Way) {n : Nat} (hn : n ≤ 40) : ∃ T, W.tab.take n = T ∧ T.length ≤ 16777216 := ⟨_, rfl, by simp; omega⟩

theorem steps_end {i : Int} {T : List Nat} (z1 : i < 4611686018427387904) (z2 : -4611686018427387904 ≤ i) (z : T.length ≤ 16777216) (lc : lcL c1_steps_free mYes e1_steps_free takeF [1] (rangeD 0 i) [] [vi i, .emp] = some ((nD T).map .val, [vi i, .emp])) :
    F_steps_free [vi i] = some (.val (.tuple (nD T)), [.emp]) := by
  simp [F_steps_free, m_steps_free, mComp, small62, isClean, wipeE, restE, lc, itemsO, z, z1, z2]
theorem steps_fn {n : Nat} (hn : n ≤ 40) : F_steps_free [vi n] = some (.val (rowT W1 n), [.emp]) := by
  have lc := lcL_map (f := c1_steps_free) (tt := mYes) (te := e1_steps_free) (tk := takeF) (vs := [1]) (env := [vi n, .emp]) (fun d => .int (tern (num d).toNat)) (rangeD 0 n) [] (by
    intro d hd
    obtain ⟨k, rfl, k0, k1⟩ := rangeD_mem hd
    obtain ⟨m, rfl⟩ := Int.eq_ofNat_of_zero_le k0
    have hi := item_fn (k := m) (by omega)
    exact ⟨_, _, _, _, (by simp [c1_steps_free] : c1_steps_free (.int (m : Int)) [vi n, .emp] = some [vi n, vi m]), rfl, (by simp [e1_steps_free, hi] : e1_steps_free [vi n, vi m] = some (.tmp (oi (tern m)), [vi n, vi m])), (by simp [num] : takeF (.tmp (oi (tern m))) [vi n, vi m] = some (.val (.int (tern (num (.int (m : Int))).toNat)), [vi n, vi m])), by simp [wipeE]⟩) (by simp; omega)
  have e : (rangeD 0 n).map (fun d => PyData.int (tern (num d).toNat)) = nD (W1.tab.take n) := by
    have q : ∀ n, n < 41 → (List.range n).map (fun i => ternF 6 i) = (W1.tab.take n).map fun x : Nat => (x : Int) := by decide +kernel
    have h : (List.range n).map (fun i => tern i) = (W1.tab.take n).map fun x : Nat => (x : Int) := by
      rw [← q n (by omega)]
      exact List.map_congr_left fun i hi => (ternF_eq 6 i (by simp at hi; omega)).symm
    have := congrArg (List.map PyData.int) h
    simpa [rangeD, num, nD, Function.comp_def] using this
  rw [e] at lc
  simp at lc
  obtain ⟨T, hT, z⟩ := take_ex W1 hn
  unfold rowT
  rw [hT] at lc ⊢
  exact steps_end (by omega) (by omega) z lc
theorem twice_end {i : Int} {T : List Nat} (z1 : i < 4611686018427387904) (z2 : -4611686018427387904 ≤ i) (z : T.length ≤ 16777216) (lc : lcL c1_sums_free mYes e1_sums_free takeF [2] (rangeD 0 i) [] [vi i, vd (.bool true), .emp] = some ((nD T).map .val, [vi i, vd (.bool true), .emp])) :
    F_sums_free [vi i, vd (.bool true)] = some (.val (.tuple (nD T)), [.emp, .emp]) := by
  simp [F_sums_free, m_sums_free, mComp, small62, isClean, wipeE, restE, lc, itemsO, z, z1, z2]
theorem twice_fn {n : Nat} (hn : n ≤ 40) : F_sums_free [vi n, vd (.bool true)] = some (.val (rowT W3 n), [.emp, .emp]) := by
  have lc := lcL_map (f := c1_sums_free) (tt := mYes) (te := e1_sums_free) (tk := takeF) (vs := [2]) (env := [vi n, vd (.bool true), .emp]) (onD fun k => 2 * k + 1) (rangeD 0 n) [] (by
    intro d hd
    obtain ⟨k, rfl, k0, k1⟩ := rangeD_mem hd
    have z : k.natAbs < 2 ^ 200 := by omega
    exact ⟨_, _, _, _, (by simp [c1_sums_free] : c1_sums_free (.int k) [vi n, vd (.bool true), .emp] = some [vi n, vd (.bool true), vi k]), rfl, (by simp [e1_sums_free, z] : e1_sums_free [vi n, vd (.bool true), vi k] = some (.tmp (oi (2 * k + 1)), [vi n, vd (.bool true), vi k])), (by simp [onD] : takeF (.tmp (oi (2 * k + 1))) [vi n, vd (.bool true), vi k] = some (.val (onD (fun k => 2 * k + 1) (.int k)), [vi n, vd (.bool true), vi k])), by simp [wipeE]⟩) (by simp; omega)
  have e : (rangeD 0 n).map (onD fun k => 2 * k + 1) = nD (W3.tab.take n) := row_of (by decide +kernel) hn
  rw [e] at lc
  simp at lc
  obtain ⟨T, hT, z⟩ := take_ex W3 hn
  unfold rowT
  rw [hT] at lc ⊢
  exact twice_end (by omega) (by omega) z lc
end K37

namespace K37
open PySem PySem.Spec L2 Pv
theorem once_end {i : Int} {ds : List D} (z1 : i - 1 < 4611686018427387904) (z2 : -4611686018427387904 ≤ i - 1) (z : ds.length ≤ 100) (zc : (cutD [.int 1, .int 2] none (some i)).length ≤ 100) (lc : lcL c2_sums_free mYes e2_sums_free takeF [2] (rangeD 1 (i - 1)) [] [vi i, vd (.bool false), .emp] = some (ds.map .val, [vi i, vd (.bool false), .emp])) :
    F_sums_free [vi i, vd (.bool false)] = some (.val (.tuple (cutD [.int 1, .int 2] none (some i) ++ ds)), [.emp, .emp]) := by
  have zz : (cutD [.int 1, .int 2] none (some i)).length + ds.length ≤ 16777216 := by omega
  have e : itemsL (.own [oi 1, oi 2]) = some [.int 1, .int 2] := rfl
  have hs : small62 (i - 1) = true := by simp [small62]; omega
  have hs1 : small62 1 = true := by decide
  have h : m_sums_free [vi i, vd (.bool false), .emp] = some (.rt (.val (.tuple (cutD [.int 1, .int 2] none (some i) ++ ds))) [vi i, vd (.bool false), .emp]) := by
    refine seq_nx (e := [vi i, vd (.bool false), .emp]) (ifS_f (e := [vi i, vd (.bool false), .emp]) (by simp) rfl) ?_
    simp [mComp, hs, hs1, isClean, wipeE, restE, lc, itemsO, fSlH, cutO, e, zz, vals_app]
  simp [F_sums_free, h]
theorem once_fn {n : Nat} (hn : n ≤ 40) : F_sums_free [vi n, vd (.bool false)] = some (.val (rowT W2 n), [.emp, .emp]) := by
  have lc := lcL_map (f := c2_sums_free) (tt := mYes) (te := e2_sums_free) (tk := takeF) (vs := [2]) (env := [vi n, vd (.bool false), .emp]) (onD fun k => 3 * k + 1) (rangeD 1 ((n : Int) - 1)) [] (by
    intro d hd
    obtain ⟨k, rfl, k0, k1⟩ := rangeD_mem hd
    have z : k.natAbs < 2 ^ 200 := by omega
    exact ⟨_, _, _, _, (by simp [c2_sums_free] : c2_sums_free (.int k) [vi n, vd (.bool false), .emp] = some [vi n, vd (.bool false), vi k]), rfl, (by simp [e2_sums_free, z] : e2_sums_free [vi n, vd (.bool false), vi k] = some (.tmp (oi (3 * k + 1)), [vi n, vd (.bool false), vi k])), (by simp [onD] : takeF (.tmp (oi (3 * k + 1))) [vi n, vd (.bool false), vi k] = some (.val (onD (fun k => 3 * k + 1) (.int k)), [vi n, vd (.bool false), vi k])), by simp [wipeE]⟩) (by simp; omega)
  have e : (rangeD 1 ((n : Int) - 1)).map (onD fun k => 3 * k + 1) = nD ((List.range (n - 2)).map fun k => 3 * k + 4) := by
    have : ((n : Int) - 1 - 1).toNat = n - 2 := by omega
    simp only [rangeD, this, nD, List.map_map]
    refine List.map_congr_left fun a ha => ?_
    simp [onD]
    omega
  rw [e] at lc
  simp at lc
  have q : ∀ n, n < 41 → [1, 2].take n ++ (List.range (n - 2)).map (fun k => 3 * k + 4) = W2.tab.take n := by decide +kernel
  have fin := once_end (by omega) (by omega) (by simp; omega) (by rw [cut_take]; simp; omega) lc
  rw [fin, cut_take, rowT, ← q n (by omega), nD_append]
  congr 5
  unfold nD
  rw [List.map_take]
  rfl
/-- the figures of a number, so many at most -/
def sumF : Nat → Nat → Nat
  | 0, _ => 0
  | n + 1, k => if k = 0 then 0 else k % 2 + sumF n (k / 2)
theorem sumF_eq : ∀ (n k : Nat), k < 2 ^ n → (figs k).sum = (sumF n k : Nat)
  | 0, k, h => by
    have : k = 0 := by simpa using h
    subst this; rw [figs_zero]; rfl
  | n + 1, k, h => by
    by_cases c : k = 0
    · subst c; rw [figs_zero]; rfl
    · rw [figs_pos c, sumF, if_neg c, List.sum_cons, sumF_eq n (k / 2) (by rw [Nat.pow_succ] at h; omega)]
      omega
theorem carries_b (n : Int) (tk : List Nat) (x : Nat) (hx : x < 128) (hl : tk.length ≤ 40) : b1_carries_free [vi n, .wr (.own (nO tk)), vi x] = some (.nx [vi n, .wr (.own (nO (if sumF 7 x % 2 = 1 then tk ++ [x] else tk))), vi ((x + 1 : Nat) : Int)]) := by
  have f := figs_fn (Nat.lt_trans hx (by decide) : x < 2 ^ 200)
  have hs := sumF_eq 7 x hx
  have e : itemsL (.own ((figs x).map oi)) = some ((figs x).map .int) := vals_ints_oi _
  have hl' : tk.length < 16777216 := by omega
  by_cases c : sumF 7 x % 2 = 1
  · have c' : ((sumF 7 x : Nat) : Int) % 2 = 1 := by omega
    refine seq_nx (e := [vi n, .wr (.own (nO (tk ++ [x]))), vi x]) (ifS_t (e := [vi n, .wr (.own (nO tk)), vi x]) (by simp [f, e, asInts_ints, hs, c']) (by simp [hl', nO_append, nO_one])) (by simp [c])
  · have c' : ¬ ((sumF 7 x : Nat) : Int) % 2 = 1 := by omega
    refine seq_nx (e := [vi n, .wr (.own (nO tk)), vi x]) (ifS_f (e := [vi n, .wr (.own (nO tk)), vi x]) (by simp [f, e, asInts_ints, hs, c']) (by simp)) (by simp [c])
theorem carries_w (n : Nat) (hn : n ≤ 40) : ∀ (m j x : Nat), 100 - x = m → j ≤ n → W4.prev j ≤ x → (j < 40 → x ≤ W4.tab.getD j 0) → x ≤ 90 → ∃ x', mWhile t1_carries_free b1_carries_free [vi n, .wr (.own (nO (W4.tab.take j))), vi x] = some (.nx [vi n, .wr (.own (nO (W4.tab.take n))), x']) := by
  have q : ∀ j, j < 40 → (∀ x, x < 90 → W4.prev j ≤ x → x < W4.tab.getD j 0 → sumF 7 x % 2 = 0) ∧ sumF 7 (W4.tab.getD j 0) % 2 = 1 ∧ W4.tab.getD j 0 < 80 := by decide +kernel
  intro m
  induction m with
  | zero => intro j x h1 h2 h3 h4 h5; omega
  | succ m ih =>
    intro j x h1 h2 h3 h4 h5
    have tl : (W4.tab.take j).length = j := by rw [List.length_take, C4.len]; omega
    have ht : t1_carries_free [vi n, .wr (.own (nO (W4.tab.take j))), vi x] = some (decide (j < n), [vi n, .wr (.own (nO (W4.tab.take j))), vi x]) := by
      simp only [t1_carries_free]
      simp [tl]
    by_cases c : j = n
    · subst c
      exact ⟨vi x, mWhile_end (by rw [ht]; simp)⟩
    · have hj : j < 40 := by omega
      have lx := h4 hj
      obtain ⟨q1, q2, q3⟩ := q j hj
      by_cases d : x < W4.tab.getD j 0
      · have s0 := q1 x (by omega) h3 d
        obtain ⟨x', ih⟩ := ih j (x + 1) (by omega) h2 (by omega) (fun _ => by omega) (by omega)
        refine ⟨x', mWhile_go (e := [vi n, .wr (.own (nO (W4.tab.take j))), vi x]) (by rw [ht]; simp; omega) (carries_b n _ x (by omega) (by omega)) ?_⟩
        rw [if_neg (by omega)]
        exact ih
      · obtain rfl : x = W4.tab.getD j 0 := by omega
        obtain ⟨x', ih⟩ := ih (j + 1) (W4.tab.getD j 0 + 1) (by omega) (by omega) (Nat.le_refl _) (fun q => C4.prev (j + 1) q) (by omega)
        refine ⟨x', mWhile_go (e := [vi n, .wr (.own (nO (W4.tab.take j))), vi (W4.tab.getD j 0)]) (by rw [ht]; simp; omega) (carries_b n _ _ (by omega) (by omega)) ?_⟩
        rw [if_pos q2, ← take_succ (by rw [C4.len]; omega)]
        exact ih
theorem carries_fn {n : Nat} (hn : n ≤ 40) : F_carries_free [vi n] = some (.val (rowT W4 n), [.emp]) := by
  obtain ⟨x', h⟩ := carries_w n hn 99 0 1 rfl (by omega) (Nat.le_refl _) (fun _ => C4.prev 0 (by decide)) (by decide)
  have h2 : m_carries_free [vi n, .emp, .emp] = some (.rt (.val (rowT W4 n)) [vi n, .wr (.own (nO (W4.tab.take n))), x']) := by
    refine seq_nx (e := [vi n, .wr (.own []), vi 1]) (by simp) ?_
    refine seq_nx (e := [vi n, .wr (.own (nO (W4.tab.take n))), x']) h ?_
    simp [rowT, itemsO]
  simp [F_carries_free, h2]
end K37

namespace K37
open PySem PySem.Spec L2 Pv
abbrev FF (n : Int) (tk : List Nat) (k2 k3 : List (Key × O)) (x s5 s6 : Sl) : Pv.Env := [vi n, .wr (.own (nO tk)), .wr (.odic k2), .wr (.odic k3), x, s5, s6]
abbrev FR (n : Int) (tk : List Nat) (k2 k3 : List (Key × O)) (x s5 s6 : Sl) : Pv.Env := [vi n, .rd (.own (nO tk)), .wr (.odic k2), .wr (.odic k3), x, s5, s6]
theorem fours_own (n : Int) (tk0 : List Nat) (x : Nat) (s5 : Sl) : ∀ (tk : List Nat) (k2 k3 : List (Key × O)) (s6 : Sl) (S2 S3 : Int → Prop), k2.length + tk.length < 16777216 → k3.length + tk.length < 16777216 → Has k2 S2 → Has k3 S3 → AllI k2 →
    ∃ k2' k3' s6', forL (fName 6) b3_fours_free (nD tk) (FR n tk0 k2 k3 (vi x) s5 s6) = some (.nx (FR n tk0 k2' k3' (vi x) s5 s6')) ∧ k2'.length ≤ k2.length + tk.length ∧ k3'.length ≤ k3.length + tk.length ∧
      Has k2' (fun y => S2 y ∨ InB (tk.map fun a => a ^^^ x) y) ∧ Has k3' (fun y => S3 y ∨ InB (tk.map fun a => a ^^^ x) y) ∧ AllI k2'
  | [], k2, k3, s6, S2, S3, l2, l3, h2, h3, a2 => ⟨k2, k3, s6, rfl, by simp, by simp, h2.congr fun y => by simp [InB], h3.congr fun y => by simp [InB], a2⟩
  | a :: tk, k2, k3, s6, S2, S3, l2, l3, h2, h3, a2 => by
    have p2 := putO_len k2 (.inl ((a ^^^ x : Nat) : Int)) (.val (.bool true))
    have p3 := putO_len k3 (.inl ((a ^^^ x : Nat) : Int)) (.val (.bool true))
    simp at l2 l3
    obtain ⟨k2', k3', s6', q1, q2, q3, q4, q5, q6⟩ := fours_own n tk0 x s5 tk (putO k2 (.inl ((a ^^^ x : Nat) : Int)) (.val (.bool true))) (putO k3 (.inl ((a ^^^ x : Nat) : Int)) (.val (.bool true))) (vi a) _ _ (by omega) (by omega) (h2.put _ _) (h3.put _ _) (a2.put _ _)
    have z2 : k2.length < 16777216 := by omega
    have z3 : k3.length < 16777216 := by omega
    have e1 : b3_fours_free (FR n tk0 k2 k3 (vi x) s5 (vi a)) = some (.nx (FR n tk0 (putO k2 (.inl ((a ^^^ x : Nat) : Int)) (.val (.bool true))) (putO k3 (.inl ((a ^^^ x : Nat) : Int)) (.val (.bool true))) (vi x) s5 (vi a))) := by
      refine seq_nx (e := FR n tk0 (putO k2 (.inl ((a ^^^ x : Nat) : Int)) (.val (.bool true))) k3 (vi x) s5 (vi a)) (by simp [z2]) (by simp [z3])
    have f1 : fName 6 (.int (a : Int)) (FR n tk0 k2 k3 (vi x) s5 s6) = some (FR n tk0 k2 k3 (vi x) s5 (vi a)) := by simp
    refine ⟨k2', k3', s6', ?_, by simp; omega, by simp; omega, q4.congr fun y => ?_, q5.congr fun y => ?_, q6⟩
    · show forL (fName 6) b3_fours_free (.int (a : Int) :: nD tk) _ = _
      simp only [forL, f1, Option.bind_some, e1]
      exact q1
    · simp only [InB, List.map_cons, List.mem_cons, exists_eq_or_imp]
      constructor
      · rintro ((h | h) | h)
        · exact .inr (.inl h)
        · exact .inl h
        · exact .inr (.inr h)
      · rintro (h | h | h)
        · exact .inl (.inr h)
        · exact .inl (.inl h)
        · exact .inr h
    · simp only [InB, List.map_cons, List.mem_cons, exists_eq_or_imp]
      constructor
      · rintro ((h | h) | h)
        · exact .inr (.inl h)
        · exact .inl h
        · exact .inr (.inr h)
      · rintro (h | h | h)
        · exact .inl (.inr h)
        · exact .inl (.inl h)
        · exact .inr h
theorem fours_skip (n : Int) (tk : List Nat) (k2 k3 : List (Key × O)) (x : Nat) (s5 s6 : Sl) (h : (getO k3 (.inl ((x + 1 : Nat) : Int))).isSome = true) : b1_fours_free (FF n tk k2 k3 (vi x) s5 s6) = some (.nx (FF n tk k2 k3 (vi ((x + 1 : Nat) : Int)) s5 s6)) := by
  refine seq_nx (e := FF n tk k2 k3 (vi ((x + 1 : Nat) : Int)) s5 s6) (by simp) (ifS_f (e := FF n tk k2 k3 (vi ((x + 1 : Nat) : Int)) s5 s6) (by simp only [Int.natCast_add] at h ⊢; simp [fNotIn, fInB] at h ⊢; exact h) rfl)
theorem fours_step (n : Int) (tk ps bs : List Nat) (k2 k3 : List (Key × O)) (x : Nat) (s5 s6 : Sl) (hl : tk.length ≤ 40) (l2 : k2.length ≤ 100000) (l3 : k3.length ≤ 1000000) (h2 : Has k2 (InB ps)) (a2 : AllI k2) (h3 : Has k3 fun y => InB bs y ∨ InB tk y) (hn : ¬ (InB bs ((x + 1 : Nat) : Int) ∨ InB tk ((x + 1 : Nat) : Int))) :
    ∃ k2' k3' s5' s6', b1_fours_free (FF n tk k2 k3 (vi x) s5 s6) = some (.nx (FF n (tk ++ [x + 1]) k2' k3' (vi ((x + 1 : Nat) : Int)) s5' s6')) ∧ k2'.length ≤ k2.length + 40 ∧ k3'.length ≤ k3.length + k2.length + 41 ∧ AllI k2' ∧
      Has k2' (InB (ps ++ tk.map fun a => a ^^^ (x + 1))) ∧ Has k3' (fun y => InB (bs ++ ((ps.map fun b => b ^^^ (x + 1)) ++ tk.map fun a => a ^^^ (x + 1))) y ∨ InB (tk ++ [x + 1]) y) := by
  have hk := h3.isF hn
  obtain ⟨X, hX⟩ : ∃ X, X = x + 1 := ⟨_, rfl⟩
  rw [← hX] at hk hn ⊢
  obtain ⟨k3a, s5a, p1, p2, p3, _⟩ := forL_keys (f := fName 5) (body := b2_fours_free) (fun kvs s => FF n tk k2 kvs (vi X) s s6) (fun d => Builtin.bitXor (num d) X) (k2.map fun kv => keyD kv.1) k3 s5 (by
    intro d hd kvs s m1 m2
    obtain ⟨y, ⟨z, hz, rfl⟩, rfl⟩ := (keys_int h2 a2 d).mp hd
    exact ⟨vi z, by simp [b2_fours_free, num, m1]⟩) (by simp; omega)
  simp at p2
  have h3a : Has k3a fun y => (InB bs y ∨ InB tk y) ∨ InB (ps.map fun b => b ^^^ X) y := (p3 _ h3).congr fun y => by
    constructor
    · rintro (h | ⟨d, hd, e⟩)
      · exact .inl h
      · obtain ⟨y2, ⟨z, hz, rfl⟩, rfl⟩ := (keys_int h2 a2 d).mp hd
        exact .inr ⟨z ^^^ X, List.mem_map.mpr ⟨z, hz, rfl⟩, by rw [e]; simp [num]⟩
    · rintro (h | ⟨u, hu, e⟩)
      · exact .inl h
      · obtain ⟨z, hz, rfl⟩ := List.mem_map.mp hu
        exact .inr ⟨.int z, (keys_int h2 a2 _).mpr ⟨z, ⟨z, hz, rfl⟩, rfl⟩, by rw [e]; simp [num]⟩
  obtain ⟨k2', k3b, s6', q1, q2, q3, q4, q5, q6⟩ := fours_own n tk X s5a tk k2 k3a s6 _ _ (by omega) (by omega) h2 h3a a2
  have pl := putO_len k3b (.inl (X : Int)) (.val (.bool true))
  have z3 : k3b.length < 16777216 := by omega
  have zl : tk.length < 16777216 := by omega
  refine ⟨k2', putO k3b (.inl (X : Int)) (.val (.bool true)), s5a, s6', ?_, by omega, by omega, q6, q4.congr fun y => ?_, (q5.put _ _).congr fun y => ?_⟩
  · refine seq_nx (e := FF n tk k2 k3 (vi X) s5 s6) (by simp [hX]) (ifS_t (e := FF n tk k2 k3 (vi X) s5 s6) (by simp [fNotIn, fInB, hk]) ?_)
    refine seq_nx (e := FF n tk k2 k3a (vi X) s5a s6) ?_ ?_
    · have e : itemsO (.own ((k2.map fun kv => keyD kv.1).map .val)) = some (k2.map fun kv => keyD kv.1) := vals_map _
      simp only [mFor, mItems, mCall, mCons, mVar, mNil, look, looks, fListA, still, Option.bind_some, List.getElem?_cons_succ, List.getElem?_cons_zero, e]
      exact p1
    refine seq_nx (e := FF n tk k2' k3b (vi X) s5a s6') ?_ ?_
    · simp [mLock, itemsO, q1, unlock]
    refine seq_nx (e := FF n tk k2' (putO k3b (.inl (X : Int)) (.val (.bool true))) (vi X) s5a s6') (by simp [z3]) (by simp [zl, nO_append, nO_one])
  · simp only [InB, List.mem_append, or_and_right, exists_or]
  · simp only [InB, List.mem_append, or_and_right, exists_or, List.mem_singleton, exists_eq_left]
    grind
theorem fours_w (n : Nat) (hn : n ≤ 40) : ∀ (m j x : Nat) (k2 k3 : List (Key × O)) (s5 s6 : Sl), 9000 - x = m → j ≤ n → W5.prev j ≤ x + 1 → (j < 40 → x + 1 ≤ W5.tab.getD j 0) → x ≤ 8990 → k2.length ≤ 40 * j → k3.length ≤ 2000 * j → AllI k2 → Has k2 (InB (W5.pairs j)) → Has k3 (fun y => InB (W5.bar j) y ∨ InB (W5.tab.take j) y) →
    ∃ e, mWhile t1_fours_free b1_fours_free (FF n (W5.tab.take j) k2 k3 (vi x) s5 s6) = some (.nx (vi n :: .wr (.own (nO (W5.tab.take n))) :: e)) := by
  intro m
  induction m with
  | zero => intro j x k2 k3 s5 s6 h1 h2 h3 h4 h5; omega
  | succ m ih =>
    intro j x k2 k3 s5 s6 h1 h2 h3 h4 h5 l2 l3 a2 H2 H3
    have tl : (W5.tab.take j).length = j := by rw [List.length_take, C5.len]; omega
    have ht : t1_fours_free (FF n (W5.tab.take j) k2 k3 (vi x) s5 s6) = some (decide (j < n), FF n (W5.tab.take j) k2 k3 (vi x) s5 s6) := by
      simp only [t1_fours_free]
      simp [tl]
    by_cases c : j = n
    · subst c
      exact ⟨_, mWhile_end (by rw [ht]; simp; rfl)⟩
    · have hj : j < 40 := by omega
      have lx := h4 hj
      have lo := C5.low j hj
      by_cases d : x + 1 < W5.tab.getD j 0
      · have inb := C5.bars j hj (x + 1) h3 d
        obtain ⟨e, ih⟩ := ih j (x + 1) k2 k3 s5 s6 (by omega) h2 (by omega) (fun _ => by omega) (by omega) l2 l3 a2 H2 H3
        exact ⟨e, mWhile_go (e := FF n (W5.tab.take j) k2 k3 (vi x) s5 s6) (by rw [ht]; simp; omega) (fours_skip _ _ _ _ _ _ _ (H3.isT (.inl ⟨x + 1, inb, rfl⟩))) ih⟩
      · have hx : x + 1 = W5.tab.getD j 0 := by omega
        obtain ⟨k2', k3', s5', s6', q1, q2, q3, q4, q5, q6⟩ := fours_step n (W5.tab.take j) (W5.pairs j) (W5.bar j) k2 k3 x s5 s6 (by omega) (by omega) (by omega) H2 a2 H3 (by
          rw [hx]
          rintro (⟨y, hy, e⟩ | ⟨y, hy, e⟩)
          · have : W5.tab.getD j 0 = y := by omega
            exact C5.free j hj (this ▸ hy)
          · have := tab_mono C5 j (by omega) y hy
            omega)
        rw [hx, ← take_succ (by rw [C5.len]; omega)] at q1
        rw [hx] at q5 q6
        rw [← take_succ (by rw [C5.len]; omega)] at q6
        obtain ⟨e, ih⟩ := ih (j + 1) (W5.tab.getD j 0) k2' k3' s5' s6' (by omega) (by omega) (Nat.le_refl _) (fun q => C5.prev (j + 1) q) (by omega) (by omega) (by omega) q4 q5 q6
        exact ⟨e, mWhile_go (e := FF n (W5.tab.take j) k2 k3 (vi x) s5 s6) (by rw [ht]; simp; omega) q1 ih⟩
theorem fours_fn {n : Nat} (hn : n ≤ 40) : F_fours_free [vi n] = some (.val (rowT W5 n), [.emp]) := by
  obtain ⟨e, h⟩ := fours_w n hn 9000 0 0 [] [] .emp .emp rfl (by omega) (Nat.le_refl _) (fun _ => C5.prev 0 (by decide)) (by decide) (by simp) (by simp) AllI.nil (Has.nil.congr fun y => by simp [InB, Way.pairs]) (Has.nil.congr fun y => by simp [InB, Way.bar])
  have h2 : m_fours_free [vi n, .emp, .emp, .emp, .emp, .emp, .emp] = some (.rt (.val (rowT W5 n)) (vi n :: .wr (.own (nO (W5.tab.take n))) :: e)) := by
    refine seq_nx (e := [vi n, .wr (.own []), .wr (.odic []), .wr (.odic []), vi 0, .emp, .emp]) (by simp [mDic]) ?_
    refine seq_nx (e := vi n :: .wr (.own (nO (W5.tab.take n))) :: e) h ?_
    simp [rowT, itemsO]
  simp [F_fours_free, h2]
end K37

namespace K37
open PySem PySem.Spec L2 Pv
theorem is_fnW {d : D} (h : fineW d = true) (hd : d.depth ≤ 64) (hb : d.bulk ≤ 2 ^ 17) : F_u_law_is [vd d, vd d] = some (.val (.bool true), [.emp, .emp]) := B1.is_fnW h hd hb
/-! ### _law_row -/
def IsWay (W : Way) : Prop := W = W1 ∨ W = W2 ∨ W = W3 ∨ W = W4 ∨ W = W5
theorem row_end (i : Int) (T1 T2 T3 T4 T5 : D) (f1 : F_steps_free [vi i] = some (.val T1, [.emp])) (f2 : F_sums_free [vi i, vd (.bool false)] = some (.val T2, [.emp, .emp])) (f3 : F_sums_free [vi i, vd (.bool true)] = some (.val T3, [.emp, .emp])) (f4 : F_carries_free [vi i] = some (.val T4, [.emp])) (f5 : F_fours_free [vi i] = some (.val T5, [.emp])) (b : Bool) :
    F_u_law_row [vd (.str "steps"), vi i, vd (.bool b)] = some (.val T1, [.emp, .emp, .emp]) ∧ F_u_law_row [vd (.str "once"), vi i, vd (.bool b)] = some (.val T2, [.emp, .emp, .emp]) ∧ F_u_law_row [vd (.str "twice"), vi i, vd (.bool b)] = some (.val T3, [.emp, .emp, .emp]) ∧ F_u_law_row [vd (.str "carries"), vi i, vd (.bool b)] = some (.val T4, [.emp, .emp, .emp]) ∧ F_u_law_row [vd (.str "fours"), vi i, vd (.bool b)] = some (.val T5, [.emp, .emp, .emp]) := by
  refine ⟨?_, ?_, ?_, ?_, ?_⟩ <;> cases b <;> simp [F_u_law_row, m_u_law_row, f1, f2, f3, f4, f5, ne_steps_once, ne_steps_twice, ne_steps_carries, ne_steps_fours, ne_once_steps, ne_once_twice, ne_once_carries, ne_once_fours, ne_twice_steps, ne_twice_once, ne_twice_carries, ne_twice_fours, ne_carries_steps, ne_carries_once, ne_carries_twice, ne_carries_fours, ne_fours_steps, ne_fours_once, ne_fours_twice, ne_fours_carries]
theorem row_fn {W : Way} (hW : IsWay W) {n : Nat} (hn : n ≤ 40) (b : Bool) : F_u_law_row [vd (.str W.nm), vi n, vd (.bool b)] = some (.val (rowT W n), [.emp, .emp, .emp]) := by
  obtain ⟨h1, h2, h3, h4, h5⟩ := row_end n _ _ _ _ _ (steps_fn hn) (once_fn hn) (twice_fn hn) (carries_fn hn) (fours_fn hn) b
  rcases hW with rfl | rfl | rfl | rfl | rfl
  · exact h1
  · exact h2
  · exact h3
  · exact h4
  · exact h5
theorem goingW {W : Way} (hW : IsWay W) {n : Nat} (hn : n ≤ 40) : F_u_law_going [vi n, vd (.str W.nm)] = some (.val (rowT W n), [.emp, .emp]) := by
  rcases hW with rfl | rfl | rfl | rfl | rfl
  · exact going_fn C1 step1 (by decide +kernel) sh_steps hn
  · exact going_fn C2 step2 (by decide +kernel) sh_once hn
  · exact going_fn C3 step3 (by decide +kernel) sh_twice hn
  · exact going_fn C4 step4 (by decide +kernel) sh_carries hn
  · exact going_fn C5 step5 (by decide +kernel) sh_fours hn
/-! ### the law's own item, place -/
theorem tern_le : ∀ (n k : Nat), k < 2 ^ n → 0 ≤ tern k ∧ 2 * tern k < 3 ^ n
  | 0, k, h => by
    have : k = 0 := by simpa using h
    subst this; rw [tern_zero]; simp
  | n + 1, k, h => by
    by_cases c : k = 0
    · subst c; rw [tern_zero]
      have : (0 : Int) < 3 ^ (n + 1) := Int.pow_pos (by decide)
      omega
    · have := tern_le n (k / 2) (by rw [Nat.pow_succ] at h; omega)
      rw [tern_pos c, Int.pow_succ]
      omega
theorem own_item_loop (all : Int) : ∀ (n k : Nat) (f p : Int) (ds : List D) (y : Sl), ds.length = n → k < 2 ^ n → f + p * tern k = all → n ≤ 40 → 0 < p → p * 3 ^ n ≤ 3 ^ 40 → 0 ≤ f → f ≤ all → all < 3 ^ 50 → ∃ p' y', forL (fName 3) b1_u_law_own_item ds [vi k, vi f, vi p, y] = some (.nx [vi 0, vi all, p', y'])
  | 0, k, f, p, ds, y, hd, hk, he, hn, p0, p1, f0, f1, ha => by
    obtain rfl := List.length_eq_zero_iff.mp hd
    have : k = 0 := by simpa using hk
    subst this
    rw [tern_zero] at he
    exact ⟨vi p, y, by simp [forL]; omega⟩
  | n + 1, k, f, p, d :: ds, y, hd, hk, he, hn, p0, p1, f0, f1, ha => by
    have hk2 : k / 2 < 2 ^ n := by rw [Nat.pow_succ] at hk; omega
    have t2 := tern_le n (k / 2) hk2
    have et : tern k = ((k % 2 : Nat) : Int) + 3 * tern (k / 2) := by
      by_cases c : k = 0
      · subst c; simp [tern_zero]
      · exact tern_pos c
    have e2 : f + p * ((k % 2 : Nat) : Int) + p * 3 * tern (k / 2) = all := by rw [← he, et]; grind
    have n0 : 0 ≤ p * 3 * tern (k / 2) := Int.mul_nonneg (by omega) t2.1
    have n1 : 0 ≤ p * ((k % 2 : Nat) : Int) := Int.mul_nonneg (by omega) (by omega)
    have q : p * 3 * 3 ^ n ≤ 3 ^ 40 := by rw [Int.pow_succ] at p1; grind
    have q0 : 0 < (3 : Int) ^ n := Int.pow_pos (by decide)
    have q1 : p * 3 ≤ 3 ^ 40 := by
      have := Int.mul_le_mul_of_nonneg_left (show (1 : Int) ≤ 3 ^ n by omega) (show 0 ≤ p * 3 by omega)
      omega
    obtain ⟨p', y', ih⟩ := own_item_loop all n (k / 2) (f + p * ((k % 2 : Nat) : Int)) (p * 3) ds (vd d) (by simpa using hd) hk2 e2 (by omega) (by omega) q (by omega) (by omega) ha
    have zp : p.natAbs < 2 ^ 200 := by
      have : (3 : Int) ^ 40 < 2 ^ 190 := by decide
      generalize (3 : Int) ^ 40 = t at *
      omega
    have zk : ((k : Int) % 2).natAbs < 2 ^ 200 := by omega
    refine ⟨p', y', ?_⟩
    have hb : b1_u_law_own_item [vi k, vi f, vi p, vd d] = some (.nx [vi ((k / 2 : Nat) : Int), vi (f + p * ((k % 2 : Nat) : Int)), vi (p * 3), vd d]) := by
      refine seq_nx (e := [vi k, vi (f + p * ((k % 2 : Nat) : Int)), vi p, vd d]) (by simp [zp, zk]) (by simp [zp])
    exact forL_nx (by simp) hb ih
theorem own_item_fn {k : Nat} (hk : k < 2 ^ 40) : F_u_law_own_item [vi k] = some (oi (tern k), [.emp]) := by
  have t := tern_le 40 k hk
  have : (3 : Int) ^ 40 < 3 ^ 50 := by decide
  obtain ⟨p', y', h⟩ := own_item_loop (tern k) 40 k 0 1 (rangeD 0 40) .emp (by simp) hk (by simp) (by decide) (by decide) (by decide) (by decide) t.1 (by omega)
  have h2 : m_u_law_own_item [vi k, .emp, .emp, .emp] = some (.rt (oi (tern k)) [vi 0, .emp, p', y']) := by
    refine seq_nx (e := [vi k, vi 0, vi 1, .emp]) (by simp) ?_
    refine seq_nx (e := [vi 0, vi (tern k), p', y']) (by simp only [mFor]; simp [small62]; exact h) (by simp)
  exact mDef1 h2
def plD : Option Int → D
  | none => .none
  | some v => .int v
theorem place_fn {x : Nat} (hx : x < 3 ^ 100) : F_steps_place [vi x] = some (.val (plD (place x)), [.emp]) := by
  obtain ⟨h1, h2⟩ := place_w 100 x 0 1 hx (by decide) (by decide) (by decide) (by decide) (by decide)
  cases e : place x with
  | some v =>
    obtain ⟨w', h⟩ := h1 v e
    have q : m_steps_place [vi x, .emp, .emp] = some (.rt (oi v) [vi 0, .emp, w']) := by
      refine seq_nx (e := [vi x, vi 0, vi 1]) (by simp) ?_
      refine seq_nx h (by simp)
    exact mDef1 q
  | none =>
    obtain ⟨w', h⟩ := h2 e
    have q : m_steps_place [vi x, .emp, .emp] = some (.rt (.val .none) w') := by
      refine seq_nx (e := [vi x, vi 0, vi 1]) (by simp) ?_
      exact seq_ret h
    exact mDef1 q
theorem place_le : ∀ (n x : Nat) (v : Int), x < 3 ^ n → place x = some v → 0 ≤ v ∧ v < 2 ^ n
  | 0, x, v, h, hv => by
    have : x = 0 := by simpa using h
    subst this; rw [place_zero] at hv; cases hv; decide
  | n + 1, x, v, h, hv => by
    by_cases c : x = 0
    · subst c; rw [place_zero] at hv; cases hv
      have : (0 : Int) < 2 ^ (n + 1) := Int.pow_pos (by decide)
      omega
    · rw [place_pos c] at hv
      split at hv
      · cases hv
      · rw [Option.map_eq_some_iff] at hv
        obtain ⟨u, hu, rfl⟩ := hv
        have := place_le n (x / 3) u (by rw [Nat.pow_succ] at h; omega) hu
        rw [Int.pow_succ]
        omega
theorem own_place_loop : ∀ (n x : Nat) (f p : Int) (ds : List D) (y : Sl), ds.length = n → x < 3 ^ n → n ≤ 38 → 0 < p → p * 2 ^ n ≤ 2 ^ 38 → 0 ≤ f → 
    (∀ v, place x = some v → ∃ p' y', forL (fName 3) b1_u_law_own_place ds [vi x, vi f, vi p, y] = some (.nx [vi 0, vi (f + p * v), p', y'])) ∧ (place x = none → ∃ e, forL (fName 3) b1_u_law_own_place ds [vi x, vi f, vi p, y] = some (.rt (.val .none) e))
  | 0, x, f, p, ds, y, hd, hx, hn, p0, p1, f0 => by
    obtain rfl := List.length_eq_zero_iff.mp hd
    have : x = 0 := by simpa using hx
    subst this
    rw [place_zero]
    exact ⟨fun v hv => (by cases hv; exact ⟨vi p, y, by simp [forL]⟩), fun hv => (by cases hv)⟩
  | n + 1, x, f, p, d :: ds, y, hd, hx, hn, p0, p1, f0 => by
    have q : p * 2 * 2 ^ n ≤ 2 ^ 38 := by rw [Int.pow_succ] at p1; grind
    have q0 : 0 < (2 : Int) ^ n := Int.pow_pos (by decide)
    have q1 : p * 2 ≤ 2 ^ 38 := by
      have := Int.mul_le_mul_of_nonneg_left (show (1 : Int) ≤ 2 ^ n by omega) (show 0 ≤ p * 2 by omega)
      omega
    have zp : p.natAbs < 2 ^ 200 := by omega
    have hx3 : x / 3 < 3 ^ n := by rw [Nat.pow_succ] at hx; omega
    have n1 : 0 ≤ p * ((x % 3 : Nat) : Int) := Int.mul_nonneg (by omega) (by omega)
    obtain ⟨i1, i2⟩ := own_place_loop n (x / 3) (f + p * ((x % 3 : Nat) : Int)) (p * 2) ds (vd d) (by simpa using hd) hx3 (by omega) (by omega) q (by omega)
    have ep : place x = if x % 3 = 2 then none else (place (x / 3)).map fun v => ((x % 3 : Nat) : Int) + 2 * v := by
      by_cases c : x = 0
      · subst c; simp [place_zero]
      · exact place_pos c
    rw [ep]
    by_cases c : x % 3 = 2
    · have hb : b1_u_law_own_place [vi x, vi f, vi p, vd d] = some (.rt (.val .none) [vi x, vi f, vi p, vd d]) := by
        have c' : (x : Int) % 3 = 2 := by omega
        exact seq_ret (ifS_t (e := [vi x, vi f, vi p, vd d]) (by simp [c']) (by simp))
      rw [if_pos c]
      refine ⟨fun v hv => (by cases hv), fun _ => ⟨[vi x, vi f, vi p, vd d], ?_⟩⟩
      exact forL_rt (by simp) hb
    · have hb : b1_u_law_own_place [vi x, vi f, vi p, vd d] = some (.nx [vi ((x / 3 : Nat) : Int), vi (f + p * ((x % 3 : Nat) : Int)), vi (p * 2), vd d]) := by
        have c' : ¬ (x : Int) % 3 = 2 := by omega
        have zx : ((x : Int) % 3).natAbs < 2 ^ 200 := by omega
        refine seq_nx (e := [vi x, vi f, vi p, vd d]) (ifS_f (e := [vi x, vi f, vi p, vd d]) (by simp [c']) rfl) ?_
        refine seq_nx (e := [vi x, vi (f + p * ((x % 3 : Nat) : Int)), vi p, vd d]) (by simp [zp, zx]) (by simp [zp])
      rw [if_neg c]
      refine ⟨fun v hv => ?_, fun hv => ?_⟩
      · rw [Option.map_eq_some_iff] at hv
        obtain ⟨u, hu, rfl⟩ := hv
        obtain ⟨p', y', h⟩ := i1 u hu
        refine ⟨p', y', ?_⟩
        have e : f + p * ((x % 3 : Nat) : Int) + p * 2 * u = f + p * (((x % 3 : Nat) : Int) + 2 * u) := by grind
        rw [e] at h
        exact forL_nx (by simp) hb h
      · rw [Option.map_eq_none_iff] at hv
        obtain ⟨e, h⟩ := i2 hv
        refine ⟨e, ?_⟩
        exact forL_nx (by simp) hb h
theorem own_place_fn {x : Nat} (hx : x < 3 ^ 38) : F_u_law_own_place [vi x] = some (.val (plD (place x)), [.emp]) := by
  obtain ⟨h1, h2⟩ := own_place_loop 38 x 0 1 (rangeD 0 38) .emp (by simp) hx (by decide) (by decide) (by decide) (by decide)
  cases e : place x with
  | some v =>
    obtain ⟨p', y', h⟩ := h1 v e
    have q : m_u_law_own_place [vi x, .emp, .emp, .emp] = some (.rt (oi v) [vi 0, .emp, p', y']) := by
      refine seq_nx (e := [vi x, vi 0, vi 1, .emp]) (by simp) ?_
      refine seq_nx (e := [vi 0, vi (0 + 1 * v), p', y']) (by simp only [mFor]; simp [small62] at h ⊢; exact h) (by simp)
    exact mDef1 q
  | none =>
    obtain ⟨w', h⟩ := h2 e
    have q : m_u_law_own_place [vi x, .emp, .emp, .emp] = some (.rt (.val .none) w') := by
      refine seq_nx (e := [vi x, vi 0, vi 1, .emp]) (by simp) ?_
      exact seq_ret (by simp only [mFor]; simp [small62] at h ⊢; exact h)
    exact mDef1 q
end K37

namespace K37
open PySem PySem.Spec L2 Pv
/-! ### bits: a few numbers, gone through by the kernel -/
def chkT (r : Option (O × Pv.Env)) (l : List Int) : Bool := match r with
  | some (.val (.tuple ds), [.emp]) => asInts ds == some l
  | _ => false
theorem chkT_eq {r : Option (O × Pv.Env)} {l : List Int} (h : chkT r l = true) : r = some (.val (.tuple (l.map .int)), [.emp]) := by
  unfold chkT at h
  split at h
  · have h := eq_of_beq h
    rw [asInts_eq h]
  · cases h
def chkI (r : Option (O × Pv.Env)) (i : Int) : Bool := match r with
  | some (.val (.int j), [.emp]) => i == j
  | _ => false
theorem chkI_eq {r : Option (O × Pv.Env)} {i : Int} (h : chkI r i = true) : r = some (oi i, [.emp]) := by
  unfold chkI at h
  split at h
  · have h := eq_of_beq h
    rw [h]
  · cases h
def bitsN (a : Nat) : List Nat := (List.range 16).filter fun p => a / 2 ^ p % 2 == 1
theorem bits_chk : ((List.range 80).all fun a => chkT (F_bits_of [vi (a : Int)]) ((bitsN a).map fun p : Nat => (p : Int))) = true := by decide +kernel
theorem bits_fn {a : Nat} (h : a < 80) : F_bits_of [vi (a : Int)] = some (.val (.tuple (nD (bitsN a))), [.emp]) := by
  have := List.all_eq_true.mp bits_chk a (by simpa using h)
  rw [chkT_eq this, List.map_map]
  rfl
theorem number_chk : ((List.range 80).all fun a => chkI (F_number_of_bits [vd (.tuple (nD (bitsN a)))]) (a : Int)) = true := by decide +kernel
theorem number_fn {a : Nat} (h : a < 80) : F_number_of_bits [vd (.tuple (nD (bitsN a)))] = some (oi (a : Int), [.emp]) := chkI_eq (List.all_eq_true.mp number_chk a (by simpa using h))
/-! ### the least not barred -/
theorem dc_least (l0 : Sl) : ∀ (l : List Nat) (kvs : List (Key × O)) (S : Int → Prop), kvs.length + l.length < 16777216 → Has kvs S → ∃ kvs', dcL c1_least_unbarred mYes (mVar 3) (mC (.bool true)) [3] (nD l) kvs [l0, .emp, .emp, .emp] = some (kvs', [l0, .emp, .emp, .emp]) ∧ Has kvs' (fun x => S x ∨ InB l x)
  | [], kvs, S, hl, h => ⟨kvs, by simp [nD, dcL], h.congr fun x => by simp [InB]⟩
  | a :: l, kvs, S, hl, h => by
    have p := putO_len kvs (.inl (a : Int)) (.val (.bool true))
    simp at hl
    obtain ⟨kvs', q1, q2⟩ := dc_least l0 l (putO kvs (.inl (a : Int)) (.val (.bool true))) _ (by omega) (h.put _ _)
    have z : kvs.length < 16777216 := by omega
    refine ⟨kvs', ?_, q2.congr fun x => ?_⟩
    · show dcL c1_least_unbarred mYes (mVar 3) (mC (.bool true)) [3] (.int (a : Int) :: nD l) kvs _ = _
      simp [dcL, c1_least_unbarred, z, wipeE]
      exact q1
    · simp only [InB, List.mem_cons, exists_eq_or_imp]
      constructor
      · rintro ((h | h) | h)
        · exact .inr (.inl h)
        · exact .inl h
        · exact .inr (.inr h)
      · rintro (h | h | h)
        · exact .inl (.inr h)
        · exact .inl (.inl h)
        · exact .inr h
theorem least_w (l0 : Sl) (kvs : List (Key × O)) (l : List Nat) (h : Has kvs (InB l)) (v : Nat) (hv : v ∉ l) (hb : ∀ u, u < v → u ∈ l) : ∀ (n u : Nat), v - u = n → u ≤ v → mWhile t2_least_unbarred b2_least_unbarred [l0, .wr (.odic kvs), vi u, .emp] = some (.nx [l0, .wr (.odic kvs), vi v, .emp])
  | 0, u, hn, hu => by
    obtain rfl : u = v := by omega
    have : ¬ InB l (u : Int) := by
      rintro ⟨y, hy, e⟩
      obtain rfl : u = y := by omega
      exact hv hy
    exact mWhile_end (by simp [t2_least_unbarred, fIn, fInB, h.isF this])
  | n + 1, u, hn, hu => by
    have : InB l (u : Int) := ⟨u, hb u (by omega), rfl⟩
    have ih := least_w l0 kvs l h v hv hb n (u + 1) (by omega) (by omega)
    exact mWhile_go (e := [l0, .wr (.odic kvs), vi u, .emp]) (e1 := [l0, .wr (.odic kvs), vi ((u + 1 : Nat) : Int), .emp]) (by simp [t2_least_unbarred, fIn, fInB, h.isT this]) (by simp [b2_least_unbarred]) ih
theorem least_fn {l : List Nat} {v : Nat} (hl : l.length < 16777216) (hv : v ∉ l) (hb : ∀ u, u < v → u ∈ l) : F_least_unbarred [vd (.tuple (nD l))] = some (oi (v : Int), [.emp]) := by
  obtain ⟨kvs, h1, h2⟩ := dc_least (vd (.tuple (nD l))) l [] _ (by simpa using hl) Has.nil
  have h3 : Has kvs (InB l) := h2.congr fun x => by simp
  have w := least_w (vd (.tuple (nD l))) kvs l h3 v hv hb v 0 (by omega) (by omega)
  refine mDef1 (e := [vd (.tuple (nD l)), .wr (.odic kvs), .emp, .emp]) ?_
  show m_least_unbarred [vd (.tuple (nD l)), .emp, .emp, .emp] = _
  refine seq_nx (e := [vd (.tuple (nD l)), .wr (.odic kvs), .emp, .emp]) (by simp [mDcomp, itemsO, isClean, wipeE, restE, h1]) ?_
  refine seq_nx (e := [vd (.tuple (nD l)), .wr (.odic kvs), vi 0, .emp]) (by simp) ?_
  refine seq_nx w (by simp)
/-! ### sums -/
theorem summed_loop (x0 : Sl) : ∀ (l : List Nat) (acc : Nat) (y : Sl), ∃ y', forL (fName 2) b1_summed_all (nD l) [x0, vi acc, y] = some (.nx [x0, vi ((l.foldl (· ^^^ ·) acc : Nat) : Int), y'])
  | [], acc, y => ⟨y, by simp [nD, forL]⟩
  | a :: l, acc, y => by
    obtain ⟨y', h⟩ := summed_loop x0 l (acc ^^^ a) (vi a)
    exact ⟨y', forL_nx (e1 := [x0, vi acc, vi a]) (by simp) (by simp [b1_summed_all]) h⟩
theorem summed_fn (l : List Nat) : F_summed_all [vd (.tuple (nD l))] = some (oi ((l.foldl (· ^^^ ·) 0 : Nat) : Int), [.emp]) := by
  obtain ⟨y', h⟩ := summed_loop (vd (.tuple (nD l))) l 0 .emp
  refine mDef1 (e := [vd (.tuple (nD l)), .emp, y']) ?_
  show m_summed_all [vd (.tuple (nD l)), .emp, .emp] = _
  refine seq_nx (e := [vd (.tuple (nD l)), vi 0, .emp]) (by simp) ?_
  refine seq_nx (e := [vd (.tuple (nD l)), vi ((l.foldl (· ^^^ ·) 0 : Nat) : Int), y']) (by simp only [mFor]; simp [itemsO] at h ⊢; exact h) (by simp)
theorem xor_fn (a b : Nat) : F_numbers_summed [vi (a : Int), vi (b : Int)] = some (oi ((a ^^^ b : Nat) : Int), [.emp, .emp]) := by
  refine mDef2 (e := [vi (a : Int), vi (b : Int)]) ?_
  show m_numbers_summed [vi (a : Int), vi (b : Int)] = _
  simp [m_numbers_summed]
/-- the law's own sums -/
def sumsL (W : Way) (three : Bool) : Nat → List Nat
  | 0 => []
  | j + 1 => sumsL W three j ++ (W.tab.take j).map (fun a => a ^^^ W.tab.getD j 0) ++ (if three = true then (W.pairs j).map fun b => b ^^^ W.tab.getD j 0 else [])
abbrev SF (T : List D) (three : Bool) (f p : List Nat) (s4 s5 s6 : Sl) : Pv.Env := [vd (.tuple T), vd (.bool three), vd (.list (nD f)), vd (.list (nD p)), s4, s5, s6, .emp, .emp]
theorem enum_get : ∀ (l : List D) (k : Nat), enumD k l = (List.range l.length).map fun i => PyData.tuple [.int ((k + i : Nat) : Int), l.getD i .none]
  | [], k => rfl
  | d :: l, k => by
    rw [enumD, enum_get l (k + 1), List.length_cons, List.range_succ_eq_map, List.map_cons, List.map_map]
    refine List.cons_eq_cons.mpr ⟨by simp, List.map_congr_left fun i hi => ?_⟩
    have : k + 1 + i = k + (i + 1) := by omega
    simp only [Function.comp, this]
    rfl
theorem sums_comp {te : ME} (T l : List Nat) (three : Bool) (f p : List Nat) (s4 s5 s6 : Sl) (x v : Nat) (src : MI) (env : Pv.Env) (he : env = SF (nD T) three f p s4 (vi x) s6) (hs : src env = some (nD l, env)) (hv : Clean env v) (hl : l.length ≤ 1000)
    (ht : ∀ a : Nat, te (env.set v (vi a)) = some (.tmp (oi (Builtin.bitXor a x)), env.set v (vi a))) : mComp src (fName v) mYes te takeF [v] env = some (.tmp (.own ((nD (l.map fun a => a ^^^ x)).map .val)), env) := by
  have c := comp1 (src := src) (te := te) (v := v) (env := env) (ds := nD l) (onD fun a => Builtin.bitXor a x) hs hv (by
    intro d hd
    obtain ⟨a, ha, rfl⟩ := mem_nD.mp hd
    exact ht a) (by simp; omega)
  rw [onD_nD (h := fun a => a ^^^ x) (e := fun a ha => by simp)] at c
  exact c
theorem sums_body {W : Way} (C : Cert W) (hp : W.prs = true) (hf : ∀ l x, W.fresh l x = l.map fun a => a ^^^ x) (three : Bool) {m j : Nat} (hm : m ≤ 40) (hj : j < m) (s6 : Sl) (lf : (sumsL W three j).length ≤ 100000) :
    b1_u_law_sums (SF (nD (W.tab.take m)) three (sumsL W three j) (W.pairs j) (vi j) (vi (W.tab.getD j 0 : Nat)) s6) =
      some (.nx (SF (nD (W.tab.take m)) three (sumsL W three (j + 1)) (W.pairs (j + 1)) (vi j) (vi (W.tab.getD j 0 : Nat)) (vd (.list (nD ((W.tab.take j).map fun a => a ^^^ W.tab.getD j 0)))))) := by
  obtain ⟨x, hx⟩ : ∃ x, x = W.tab.getD j 0 := ⟨_, rfl⟩
  have hps := C.small j (by omega)
  have e3 : sumsL W three (j + 1) = sumsL W three j ++ (W.tab.take j).map (fun a => a ^^^ x) ++ (if three = true then (W.pairs j).map fun b => b ^^^ x else []) := by rw [hx]; rfl
  have e4 : W.pairs (j + 1) = W.pairs j ++ (W.tab.take j).map fun a => a ^^^ x := by
    show (if W.prs = true then W.pairs j ++ W.fresh (W.tab.take j) (W.tab.getD j 0) else W.pairs j) = _
    rw [if_pos hp, hf, hx]
  rw [e3, e4, ← hx]
  have ht : (nD (W.tab.take m)).take j = nD (W.tab.take j) := by unfold nD; rw [← List.map_take, List.take_take, Nat.min_eq_left (by omega)]
  have tl : (W.tab.take j).length ≤ 40 := by simp; omega
  generalize sumsL W three j = f at *
  generalize W.pairs j = p at *
  generalize W.tab.take j = tk at *
  generalize W.tab.take m = T at *
  have c1 := sums_comp (te := e2_u_law_sums) T tk three f p (vi j) (vi x) s6 x 7 (mItems (mBin fSlH (mVar 0) (mVar 4))) (SF (nD T) three f p (vi j) (vi x) s6) rfl (by simp [itemsO, fSlH, cutO, cut_take, ht]) (.inl rfl) (by omega) (by intro a; simp [e2_u_law_sums])
  have c2 := sums_comp (te := e3_u_law_sums) T p three f p (vi j) (vi x) (vd (.list (nD (tk.map fun a => a ^^^ x)))) x 8 (mItems (mVar 3)) (SF (nD T) three f p (vi j) (vi x) (vd (.list (nD (tk.map fun a => a ^^^ x))))) rfl (by simp [itemsO]) (.inl rfl) (by omega) (by intro a; simp [e3_u_law_sums])
  have z1 : f.length + tk.length ≤ 16777216 := by omega
  have z2 : f.length + tk.length + p.length ≤ 16777216 := by omega
  have z3 : p.length + tk.length ≤ 16777216 := by omega
  refine seq_nx (e := SF (nD T) three f p (vi j) (vi x) (vd (.list (nD (tk.map fun a => a ^^^ x))))) ?_ ?_
  · unfold c2_u_law_sums
    simp only [mSet, c1]
    simp
  cases three with
  | true =>
    refine seq_nx (e := SF (nD T) true (f ++ tk.map (fun a => a ^^^ x) ++ p.map fun b => b ^^^ x) p (vi j) (vi x) (vd (.list (nD (tk.map fun a => a ^^^ x))))) ?_ ?_
    · unfold c3_u_law_sums
      simp [c2, itemsL, z1, z2, nD_append]
    · simp [itemsL, nD_append, z3]
  | false =>
    refine seq_nx (e := SF (nD T) false (f ++ tk.map (fun a => a ^^^ x)) p (vi j) (vi x) (vd (.list (nD (tk.map fun a => a ^^^ x))))) ?_ ?_
    · simp [itemsL, z1, nD_append]
    · simp [itemsL, nD_append, z3]
theorem sums_len {W : Way} (C : Cert W) (three : Bool) : ∀ j, j ≤ 40 → (sumsL W three j).length ≤ 1040 * j
  | 0, _ => by simp [sumsL]
  | j + 1, h => by
    have := sums_len C three j (by omega)
    have := C.small j (by omega)
    have : (W.tab.take j).length ≤ 40 := by simp; omega
    simp only [sumsL, List.length_append, List.length_map]
    split <;> simp <;> omega
theorem sums_loop {W : Way} (C : Cert W) (hp : W.prs = true) (hf : ∀ l x, W.fresh l x = l.map fun a => a ^^^ x) (three : Bool) {m : Nat} (hm : m ≤ 40) : ∀ (n j : Nat) (s4 s5 s6 : Sl), m - j = n → j ≤ m → ∃ s4' s5' s6',
    forL (fTup 2 (fCons (fName 4) (fCons (fName 5) fNil))) b1_u_law_sums (enumD j ((nD (W.tab.take m)).drop j)) (SF (nD (W.tab.take m)) three (sumsL W three j) (W.pairs j) s4 s5 s6) = some (.nx (SF (nD (W.tab.take m)) three (sumsL W three m) (W.pairs m) s4' s5' s6')) := by
  have lm : (nD (W.tab.take m)).length = m := by rw [len_nD, List.length_take, C.len]; omega
  intro n
  induction n with
  | zero =>
    intro j s4 s5 s6 h1 h2
    obtain rfl : j = m := by omega
    rw [List.drop_of_length_le (by omega)]
    exact ⟨s4, s5, s6, rfl⟩
  | succ n ih =>
    intro j s4 s5 s6 h1 h2
    obtain ⟨s4', s5', s6', h⟩ := ih (j + 1) (vi j) (vi (W.tab.getD j 0 : Nat)) (vd (.list (nD ((W.tab.take j).map fun a => a ^^^ W.tab.getD j 0)))) (by omega) (by omega)
    refine ⟨s4', s5', s6', ?_⟩
    have hd : (nD (W.tab.take m)).drop j = .int (W.tab.getD j 0 : Nat) :: (nD (W.tab.take m)).drop (j + 1) := by
      rw [List.drop_eq_getElem_cons (by omega)]
      congr 1
      have : j < W.tab.length := by rw [C.len]; omega
      simp [nD, List.getD_eq_getElem?_getD, this]
    rw [hd, enumD]
    have := sums_len C three j (by omega)
    exact forL_nx (e1 := SF (nD (W.tab.take m)) three (sumsL W three j) (W.pairs j) (vi j) (vi (W.tab.getD j 0 : Nat)) s6) (by simp) (sums_body C hp hf three hm (by omega) s6 (by omega)) h
theorem sums_fn {W : Way} (C : Cert W) (hp : W.prs = true) (hf : ∀ l x, W.fresh l x = l.map fun a => a ^^^ x) (three : Bool) {m : Nat} (hm : m ≤ 40) : F_u_law_sums [vd (.tuple (nD (W.tab.take m))), vd (.bool three)] = some (.val (.list (nD (sumsL W three m))), [.emp, .emp]) := by
  obtain ⟨s4, s5, s6, h⟩ := sums_loop C hp hf three hm m 0 .emp .emp .emp (by omega) (by omega)
  refine mDef2 (e := [vd (.tuple (nD (W.tab.take m))), vd (.bool three), .emp, vd (.list (nD (W.pairs m))), s4, s5, s6, .emp, .emp]) ?_
  show m_u_law_sums [vd (.tuple (nD (W.tab.take m))), vd (.bool three), .emp, .emp, .emp, .emp, .emp, .emp, .emp] = _
  refine seq_nx (e := SF (nD (W.tab.take m)) three [] [] .emp .emp .emp) (by simp [nD]) ?_
  refine seq_nx (e := SF (nD (W.tab.take m)) three (sumsL W three m) (W.pairs m) s4 s5 s6) ?_ (by simp)
  simp only [mFor, mEnumA]
  simp [itemsO] at h ⊢
  exact h
end K37

namespace K37
open PySem PySem.Spec L2 Pv
theorem below {W : Way} (C : Cert W) (hlo : W.lo = 1) : ∀ (j : Nat), j ≤ 40 → ∀ u, u < W.prev j → u = 0 ∨ u ∈ W.tab.take j ∨ u ∈ W.bar j
  | 0, _, u, h => by
    have : u < W.lo := h
    left; omega
  | j + 1, hj, u, h => by
    have h' : u < W.tab.getD j 0 + 1 := h
    have l : ∀ y, y ∈ W.bar j → y ∈ W.bar (j + 1) := fun y hy => List.mem_append_left _ hy
    have t : ∀ y, y ∈ W.tab.take j → y ∈ W.tab.take (j + 1) := fun y hy => by rw [take_succ (by rw [C.len]; omega)]; exact List.mem_append_left _ hy
    by_cases c : u < W.prev j
    · rcases below C hlo j (by omega) u c with h | h | h
      · exact .inl h
      · exact .inr (.inl (t _ h))
      · exact .inr (.inr (l _ h))
    · by_cases d : u < W.tab.getD j 0
      · exact .inr (.inr (l _ (C.bars j (by omega) u (by omega) d)))
      · obtain rfl : u = W.tab.getD j 0 := by omega
        refine .inr (.inl ?_)
        rw [take_succ (by rw [C.len]; omega)]
        simp
theorem sums_mem4 : ∀ j y, y ∈ sumsL W4 false j ↔ y ∈ W4.bar j
  | 0, y => by simp [sumsL, Way.bar]
  | j + 1, y => by
    have ih := sums_mem4 j y
    simp only [sumsL, Way.bar, List.mem_append, ih]
    simp [W4]
theorem sums_mem5 : ∀ j y, y ∈ sumsL W5 true j ↔ y ∈ W5.bar j
  | 0, y => by simp [sumsL, Way.bar]
  | j + 1, y => by
    have ih := sums_mem5 j y
    have e1 : W5.extra (W5.pairs j) (W5.tab.getD j 0) = (W5.pairs j).map fun b => b ^^^ W5.tab.getD j 0 := rfl
    have e2 : W5.fresh (W5.tab.take j) (W5.tab.getD j 0) = (W5.tab.take j).map fun b => b ^^^ W5.tab.getD j 0 := rfl
    simp only [sumsL, Way.bar, List.mem_append, ih, e1, e2, if_true]
    grind
/-- the next one is the least not barred -/
theorem next_fn {W : Way} (C : Cert W) (hlo : W.lo = 1) (three : Bool) (hs : ∀ j y, y ∈ sumsL W three j ↔ y ∈ W.bar j) {m : Nat} (hm : m < 40) :
    F_least_unbarred [vd (.tuple (nD ([0] ++ W.tab.take m ++ sumsL W three m)))] = some (oi (W.tab.getD m 0 : Nat), [.emp]) := by
  have sl := sums_len C three m (by omega)
  have p0 : 0 < W.prev m := by
    cases m with
    | zero => show 0 < W.lo; omega
    | succ m => exact Nat.succ_pos _
  have p1 := C.prev m hm
  refine least_fn ?_ ?_ ?_
  · have tl : (W.tab.take m).length ≤ 40 := by rw [List.length_take]; omega
    simp only [List.length_append, List.length_cons, List.length_nil]
    omega
  · simp only [List.mem_append, hs]
    rintro ((h | h) | h)
    · have : W.tab.getD m 0 = 0 := List.mem_singleton.mp h
      omega
    · have := tab_mono C m (by omega) _ h; omega
    · exact C.free m hm h
  · intro u hu
    simp only [List.mem_append, hs]
    by_cases c : u < W.prev m
    · rcases below C hlo m (by omega) u c with h | h | h
      · exact .inl (.inl (by simp [h]))
      · exact .inl (.inr h)
      · exact .inr h
    · exact .inr (C.bars m hm u (by omega) hu)
/-! ### draws -/
theorem someK_loop (bx : Sl) (w : Int) : ∀ (ds : List D) (j : Nat) (y : Sl), j + ds.length ≤ 40 → ∃ y', forL (fName 3) b1_u_law_some_k ds [bx, vi w, vi ((2 ^ j : Nat) : Int), y] = some (.nx [bx, vi w, vi ((2 ^ (j + ds.length) : Nat) : Int), y'])
  | [], j, y, h => ⟨y, rfl⟩
  | d :: ds, j, y, h => by
    simp at h
    obtain ⟨y', q⟩ := someK_loop bx w ds (j + 1) (vd d) (by omega)
    have e : j + 1 + ds.length = j + (d :: ds).length := by simp; omega
    rw [e] at q
    have hz : 2 ^ j ≤ 2 ^ 40 := Nat.pow_le_pow_right (by decide) (by omega)
    obtain ⟨t, ht⟩ : ∃ t : Int, t = ((2 ^ j : Nat) : Int) := ⟨_, rfl⟩
    have e2 : ((2 ^ (j + 1) : Nat) : Int) = t * 2 := by rw [Nat.pow_succ, ht]; simp
    have zt : t.natAbs < 2 ^ 200 := by
      generalize 2 ^ j = P at hz ht
      omega
    rw [e2] at q
    rw [← ht]
    exact ⟨y', forL_nx (e1 := [bx, vi w, vi t, vd d]) (by simp) (by simp [b1_u_law_some_k, zt]) q⟩
theorem eqv_ii' (a b : Int) : PyData.eqv (.int a) (.int b) = decide (a = b) := eqv_ii a b
theorem someK_spec {bl : List O} (hb : BagOk bl) : ∃ (k : Nat) (bl' : List O), BagOk bl' ∧ k ≤ 10 ^ 12 ∧ F_u_law_some_k [.wr (.own bl)] = some (oi k, [.wr (.own bl')]) := by
  have key : ∃ (r : Int) (bl' : List O), BagOk bl' ∧ 0 ≤ r ∧ r ≤ 10 ^ 12 ∧ F_u_law_some_k [.wr (.own bl)] = some (oi r, [.wr (.own bl')]) := by
    obtain ⟨w, b1, ok1, w0, w1, hd⟩ := draw_spec hb (b := 7) (by decide) (by decide)
    by_cases c0 : w = 0
    · subst c0
      obtain ⟨r, b2, ok2, r0, r1, hr⟩ := draw_spec ok1 (b := 64) (by decide) (by decide)
      exact ⟨r, b2, ok2, r0, by omega, by simp [F_u_law_some_k, m_u_law_some_k, hd, hr]⟩
    by_cases c1 : w = 1
    · subst c1
      obtain ⟨d, b2, ok2, hm, hp⟩ := pick_spec ok1 (ds := [.int 0, .int 1, .int 1000000000000, .int 999999999999]) (by simp) (by simp)
      have : ∃ r, d = .int r ∧ 0 ≤ r ∧ r ≤ 1000000000000 := by
        simp at hm
        rcases hm with rfl | rfl | rfl | rfl <;> exact ⟨_, rfl, by decide, by decide⟩
      obtain ⟨r, rfl, r0, r1⟩ := this
      exact ⟨r, b2, ok2, r0, r1, by simp [F_u_law_some_k, m_u_law_some_k, hd, powOk, hp]⟩
    have sh23 : SeqAt.shaped (.list [.int 2, .int 3]) = true := shaped_ints [2, 3]
    by_cases c2 : w = 2 ∨ w = 3
    · obtain ⟨q, b2, ok2, q0, q1, hq⟩ := draw_spec ok1 (b := 40) (by decide) (by decide)
      obtain ⟨y', hl⟩ := someK_loop (.wr (.own b2)) w (rangeD 0 q) 0 .emp (by simp; omega)
      have hle : 2 ^ (0 + (rangeD 0 q).length) ≤ 2 ^ 39 := Nat.pow_le_pow_right (by decide) (by simp; omega)
      have hge : 1 ≤ 2 ^ (0 + (rangeD 0 q).length) := Nat.one_le_two_pow
      generalize 2 ^ (0 + (rangeD 0 q).length) = t at *
      have e1 : ((2 ^ 0 : Nat) : Int) = 1 := by decide
      rw [e1] at hl
      obtain ⟨ti, hti⟩ : ∃ ti : Int, ti = (t : Int) := ⟨_, rfl⟩
      rw [← hti] at hl
      have g1 : -4611686018427387904 ≤ q := by omega
      have g2 : q < 4611686018427387904 := by omega
      refine ⟨ti - (w - 2), b2, ok2, by omega, by omega, ?_⟩
      refine mDefB1 (e := [vi w, vi ti, y']) ?_
      show m_u_law_some_k [.wr (.own bl), .emp, .emp, .emp] = _
      refine seq_nx (e := [.wr (.own b1), vi w, .emp, .emp]) (by simp [hd]) ?_
      refine seq_nx (e := [.wr (.own b1), vi w, .emp, .emp]) (ifS_f (e := [.wr (.own b1), vi w, .emp, .emp]) (by simp [c0]) rfl) ?_
      refine seq_nx (e := [.wr (.own b1), vi w, .emp, .emp]) (ifS_f (e := [.wr (.own b1), vi w, .emp, .emp]) (by simp [c1]) rfl) ?_
      refine seq_ret (ifS_t (e := [.wr (.own b1), vi w, .emp, .emp]) (by rcases c2 with rfl | rfl <;> simp [fIn, fInB, seqD, sh23, eqv_ii]) ?_)
      refine seq_nx (e := [.wr (.own b1), vi w, vi 1, .emp]) (by simp) ?_
      refine seq_nx (e := [.wr (.own b2), vi w, vi ti, y']) (by simp [hq, small62, g1, g2, hl]) (by simp)
    · have n2 : ¬ w = 2 := fun h => c2 (.inl h)
      have n3 : ¬ w = 3 := fun h => c2 (.inr h)
      have n2' : ¬ 2 = w := fun h => c2 (.inl h.symm)
      have n3' : ¬ 3 = w := fun h => c2 (.inr h.symm)
      obtain ⟨r, b2, ok2, r0, r1, hr⟩ := great_spec ok1 (b := 1000000000001) (by decide) (by decide)
      refine ⟨r, b2, ok2, r0, by omega, ?_⟩
      refine mDefB1 (e := [vi w, .emp, .emp]) ?_
      show m_u_law_some_k [.wr (.own bl), .emp, .emp, .emp] = _
      refine seq_nx (e := [.wr (.own b1), vi w, .emp, .emp]) (by simp [hd]) ?_
      refine seq_nx (e := [.wr (.own b1), vi w, .emp, .emp]) (ifS_f (e := [.wr (.own b1), vi w, .emp, .emp]) (by simp [c0]) rfl) ?_
      refine seq_nx (e := [.wr (.own b1), vi w, .emp, .emp]) (ifS_f (e := [.wr (.own b1), vi w, .emp, .emp]) (by simp [c1]) rfl) ?_
      refine seq_nx (e := [.wr (.own b1), vi w, .emp, .emp]) (ifS_f (e := [.wr (.own b1), vi w, .emp, .emp]) (by simp [fIn, fInB, seqD, sh23, eqv_ii, n2, n3, n2', n3']) rfl) ?_
      simp [powOk, hr]
  obtain ⟨r, bl', ok, r0, r1, h⟩ := key
  obtain ⟨k, rfl⟩ := Int.eq_ofNat_of_zero_le r0
  exact ⟨k, bl', ok, by omega, h⟩
theorem someX_loop (bx : Sl) (w f : Sl) : ∀ (ds : List D) (j : Nat) (y : Sl), j + ds.length ≤ 40 → ∃ y', forL (fName 4) b1_u_law_some_x ds [bx, w, f, vi ((3 ^ j : Nat) : Int), y] = some (.nx [bx, w, f, vi ((3 ^ (j + ds.length) : Nat) : Int), y'])
  | [], j, y, h => ⟨y, rfl⟩
  | d :: ds, j, y, h => by
    simp at h
    obtain ⟨y', q⟩ := someX_loop bx w f ds (j + 1) (vd d) (by omega)
    have e : j + 1 + ds.length = j + (d :: ds).length := by simp; omega
    rw [e] at q
    have hz : 3 ^ j ≤ 3 ^ 40 := Nat.pow_le_pow_right (by decide) (by omega)
    obtain ⟨t, ht⟩ : ∃ t : Int, t = ((3 ^ j : Nat) : Int) := ⟨_, rfl⟩
    have e2 : ((3 ^ (j + 1) : Nat) : Int) = t * 3 := by rw [Nat.pow_succ, ht]; simp
    have zt : t.natAbs < 2 ^ 200 := by
      have : (3 : Nat) ^ 40 < 2 ^ 190 := by decide
      generalize 3 ^ j = P at hz ht
      omega
    rw [e2] at q
    rw [← ht]
    exact ⟨y', forL_nx (e1 := [bx, w, f, vi t, vd d]) (by simp) (by simp [b1_u_law_some_x, zt]) q⟩
theorem someX_spec {bl : List O} (hb : BagOk bl) : ∃ (x : Nat) (bl' : List O), BagOk bl' ∧ x < 3 ^ 38 ∧ F_u_law_some_x [.wr (.own bl)] = some (oi x, [.wr (.own bl')]) := by
  have key : ∃ (r : Int) (bl' : List O), BagOk bl' ∧ 0 ≤ r ∧ r < 1350851717672992089 ∧ F_u_law_some_x [.wr (.own bl)] = some (oi r, [.wr (.own bl')]) := by
    obtain ⟨w, b1, ok1, w0, w1, hd⟩ := draw_spec hb (b := 8) (by decide) (by decide)
    by_cases c0 : w = 0
    · subst c0
      obtain ⟨r, b2, ok2, r0, r1, hr⟩ := draw_spec ok1 (b := 300) (by decide) (by decide)
      exact ⟨r, b2, ok2, r0, by omega, by simp [F_u_law_some_x, m_u_law_some_x, hd, hr]⟩
    by_cases c1 : w = 1
    · subst c1
      obtain ⟨u, b2, ok2, u0, u1, hu⟩ := draw_spec ok1 (b := 1000) (by decide) (by decide)
      obtain ⟨d, b3, ok3, hm, hp⟩ := pick_spec ok2 (ds := [.int 0, .int 1, .int u]) (by simp) (by simp)
      have : ∃ r, d = .int r ∧ 0 ≤ r ∧ r ≤ 1000 := by
        simp at hm
        rcases hm with rfl | rfl | rfl <;> exact ⟨_, rfl, by omega, by omega⟩
      obtain ⟨r, rfl, r0, r1⟩ := this
      exact ⟨1000000000000000000 - r, b3, ok3, by omega, by omega, by simp [F_u_law_some_x, m_u_law_some_x, hd, hu, powOk, hp]⟩
    by_cases c2 : w = 2
    · subst c2
      obtain ⟨r, b2, ok2, r0, r1, hr⟩ := great_spec ok1 (b := 1000000000000000001) (by decide) (by decide)
      exact ⟨r, b2, ok2, r0, by omega, by simp [F_u_law_some_x, m_u_law_some_x, hd, powOk, hr]⟩
    obtain ⟨g, b2, ok2, g0, g1, hg⟩ := great_spec ok1 (b := 274877906944) (by decide) (by decide)
    obtain ⟨k, rfl⟩ := Int.eq_ofNat_of_zero_le g0
    have ho := own_item_fn (k := k) (by omega)
    have tl := tern_le 38 k (by omega)
    have e38 : (3 : Int) ^ 38 = 1350851717672992089 := by decide
    rw [e38] at tl
    generalize tern k = t at *
    have start : ∀ {c : Option Ctl}, (mSeq (mIfS (mTst (mBin fLt (mVar 1) (mC (.int 5)))) (mRet takeM (mVar 2)) mSkip)
      (mSeq (mIfS (mTst (mBin fEq (mVar 1) (mC (.int 5)))) (mRet takeM (mCall fAbs (mCons (mBin fAdd (mVar 2) (mUC none [true, false] F_u_law_pick (mCons (mVar 0) (mCons (mLst (mCons (mUn fNeg (mC (.int 1))) (mCons (mC (.int 1)) mNil))) mNil)))) mNil))) mSkip)
      (mSeq (mSet 3 takeF (mC (.int 1))) (mSeq (mFor (mRange1 (mCons (mUC none [true, false] F_u_law_draw (mCons (mVar 0) (mCons (mC (.int 37)) mNil))) mNil)) (fName 4) b1_u_law_some_x)
      (mRet takeM (mBin fAdd (mVar 2) (mBin fMul (mVar 3) (mBin fSub (mC (.int 2)) (mBin fMod (mBin fDiv (mVar 2) (mVar 3)) (mC (.int 3))))))))))) [.wr (.own b2), vi w, vi t, .emp, .emp] = c → m_u_law_some_x [.wr (.own bl), .emp, .emp, .emp, .emp] = c := by
      intro c h
      refine seq_nx (e := [.wr (.own b1), vi w, .emp, .emp, .emp]) (by simp [hd]) ?_
      refine seq_nx (e := [.wr (.own b1), vi w, .emp, .emp, .emp]) (ifS_f (e := [.wr (.own b1), vi w, .emp, .emp, .emp]) (by simp [c0]) rfl) ?_
      refine seq_nx (e := [.wr (.own b1), vi w, .emp, .emp, .emp]) (ifS_f (e := [.wr (.own b1), vi w, .emp, .emp, .emp]) (by simp [c1]) rfl) ?_
      refine seq_nx (e := [.wr (.own b1), vi w, .emp, .emp, .emp]) (ifS_f (e := [.wr (.own b1), vi w, .emp, .emp, .emp]) (by simp [c2]) rfl) ?_
      refine seq_nx (e := [.wr (.own b2), vi w, vi t, .emp, .emp]) (by simp [powOk, hg, ho]) h
    by_cases c5 : w < 5
    · refine ⟨t, b2, ok2, by omega, by omega, mDefB1 (e := [vi w, .emp, .emp, .emp]) (start ?_)⟩
      exact seq_ret (ifS_t (e := [.wr (.own b2), vi w, vi t, .emp, .emp]) (by simp [c5]) (by simp))
    by_cases c6 : w = 5
    · obtain ⟨d, b3, ok3, hm, hp⟩ := pick_spec ok2 (ds := [.int (-1), .int 1]) (by simp) (by simp)
      have : ∃ r, d = .int r ∧ -1 ≤ r ∧ r ≤ 1 := by
        simp at hm
        rcases hm with rfl | rfl <;> exact ⟨_, rfl, by omega, by omega⟩
      obtain ⟨r, rfl, r0, r1⟩ := this
      refine ⟨if t + r < 0 then -(t + r) else t + r, b3, ok3, by split <;> omega, by split <;> omega, mDefB1 (e := [vi w, vi t, .emp, .emp]) (start ?_)⟩
      refine seq_nx (e := [.wr (.own b2), vi w, vi t, .emp, .emp]) (ifS_f (e := [.wr (.own b2), vi w, vi t, .emp, .emp]) (by simp [c5]) rfl) ?_
      exact seq_ret (ifS_t (e := [.wr (.own b2), vi w, vi t, .emp, .emp]) (by simp [c6]) (by simp [hp]))
    · obtain ⟨q, b3, ok3, q0, q1, hq⟩ := draw_spec ok2 (b := 37) (by decide) (by decide)
      obtain ⟨y', hl⟩ := someX_loop (.wr (.own b3)) (vi w) (vi t) (rangeD 0 q) 0 .emp (by simp; omega)
      have hle : 3 ^ (0 + (rangeD 0 q).length) ≤ 3 ^ 36 := Nat.pow_le_pow_right (by decide) (by simp; omega)
      have hge : 1 ≤ 3 ^ (0 + (rangeD 0 q).length) := Nat.pow_pos (by decide)
      generalize 3 ^ (0 + (rangeD 0 q).length) = pN at *
      have e1 : ((3 ^ 0 : Nat) : Int) = 1 := by decide
      have e36 : (3 : Nat) ^ 36 = 150094635296999121 := by decide
      rw [e36] at hle
      rw [e1] at hl
      obtain ⟨p, hp⟩ : ∃ p : Int, p = (pN : Int) := ⟨_, rfl⟩
      rw [← hp] at hl
      have g1 : -4611686018427387904 ≤ q := by omega
      have g2 : q < 4611686018427387904 := by omega
      have pp : 0 < p := by omega
      have pz : p.natAbs < 2 ^ 200 := by omega
      have m0 : 0 ≤ 2 - t / p % 3 ∧ 2 - t / p % 3 ≤ 2 := by omega
      have mz : (2 - t / p % 3).natAbs < 2 ^ 200 := by omega
      have n0 : 0 ≤ p * (2 - t / p % 3) := Int.mul_nonneg (by omega) m0.1
      have n1 : p * (2 - t / p % 3) ≤ p * 2 := Int.mul_le_mul_of_nonneg_left m0.2 (by omega)
      refine ⟨t + p * (2 - t / p % 3), b3, ok3, by omega, by omega, mDefB1 (e := [vi w, vi t, vi p, y']) (start ?_)⟩
      refine seq_nx (e := [.wr (.own b2), vi w, vi t, .emp, .emp]) (ifS_f (e := [.wr (.own b2), vi w, vi t, .emp, .emp]) (by simp [c5]) rfl) ?_
      refine seq_nx (e := [.wr (.own b2), vi w, vi t, .emp, .emp]) (ifS_f (e := [.wr (.own b2), vi w, vi t, .emp, .emp]) (by simp [c6]) rfl) ?_
      refine seq_nx (e := [.wr (.own b2), vi w, vi t, vi 1, .emp]) (by simp) ?_
      refine seq_nx (e := [.wr (.own b3), vi w, vi t, vi p, y']) (by simp [hq, small62, g1, g2, hl]) (by simp [pp, pz, mz])
  obtain ⟨r, bl', ok, r0, r1, h⟩ := key
  obtain ⟨k, rfl⟩ := Int.eq_ofNat_of_zero_le r0
  exact ⟨k, bl', ok, by omega, h⟩
end K37

namespace K37
open PySem PySem.Spec L2 Pv
abbrev SR (bx A B s3 s4 s5 s6 s7 s8 s9 s10 s11 s12 s13 s14 s15 s16 : Sl) : Pv.Env := [bx, A, B, s3, s4, s5, s6, s7, s8, s9, s10, s11, s12, s13, s14, s15, s16, .emp]
theorem atI_nD {l : List Nat} {i : Int} (h0 : 0 ≤ i) (h1 : i < l.length) : atI (nD l) i = some (.int (l.getD i.toNat 0 : Nat)) := by
  have hl : i.toNat < l.length := by omega
  simp [atI, ixN, h0, h1, nD, List.getD_eq_getElem?_getD, hl]
theorem getD_take {l : List Nat} {i n : Nat} (h : i < n) : (l.take n).getD i 0 = l.getD i 0 := by
  simp only [List.getD_eq_getElem?_getD]
  rw [List.getElem?_take_of_lt h]
theorem getD_mem {l : List Nat} {i : Nat} (h : i < l.length) : l.getD i 0 ∈ l := by
  simp [List.getD_eq_getElem?_getD, h]
theorem cut_mid (ds : List D) (a n : Nat) (h : a + n ≤ ds.length) : cutD ds (some (a : Int)) (some ((a + n : Nat) : Int)) = (ds.drop a).take n := by
  unfold cutD
  rw [HT.sIx_nat, HT.sIx_nat, Nat.min_eq_left h, Nat.min_eq_left (show a ≤ ds.length by omega)]
  congr 1
  omega
theorem nD_take (l : List Nat) (n : Nat) : (nD l).take n = nD (l.take n) := by unfold nD; rw [List.map_take]
theorem nD_drop (l : List Nat) (n : Nat) : (nD l).drop n = nD (l.drop n) := by unfold nD; rw [List.map_drop]
theorem rangeD_nD (n : Nat) : rangeD 0 n = nD (List.range n) := by
  simp [rangeD, nD]
theorem places_comp (env : Pv.Env) (a : Nat) (ha : a < 80) (h4 : env[4]? = some (vi a)) (h17 : env[17]? = some .emp) (hl : env.length = 18) :
    mComp (mRange1 (mCons (mC (.int 16)) mNil)) (fName 17) (mTst (mBin fEq (mBin fMod (mBin fDiv (mVar 4) (mBin fShl (mC (.int 1)) (mVar 17))) (mC (.int 2))) (mC (.int 1)))) (mVar 17) takeF [17] env = some (.tmp (.own ((nD (bitsN a)).map .val)), env) := by
  have e16 : rangeD 0 16 = nD (List.range 16) := rangeD_nD 16
  have c := comp1f (src := mRange1 (mCons (mC (.int 16)) mNil)) (tt := mTst (mBin fEq (mBin fMod (mBin fDiv (mVar 4) (mBin fShl (mC (.int 1)) (mVar 17))) (mC (.int 2))) (mC (.int 1)))) (te := mVar 17) (v := 17) (env := env) (ds := nD (List.range 16)) (fun d => decide (((a : Int) / 2 ^ (num d).toNat) % 2 = 1)) id (by simp [small62, e16]) (.inl h17) (by
    intro d hd
    obtain ⟨p, hp, rfl⟩ := mem_nD.mp hd
    have hp' : p < 16 := by simpa using hp
    have g4 : (env.set 17 (vd (.int (p : Int))))[4]? = some (vi a) := by rw [List.getElem?_set_ne (by decide)]; exact h4
    have g17 : (env.set 17 (vd (.int (p : Int))))[17]? = some (vi p) := List.getElem?_set_self (by omega)
    have sh : shlOk 1 p = true := by
      have e : Builtin.Int.intBits 1 = 1 := by decide
      simp only [shlOk, e, Bool.and_eq_true, decide_eq_true_eq]
      omega
    have pw : (2 : Int) ^ p ≤ 2 ^ 16 := by
      have := Nat.pow_le_pow_right (n := 2) (by decide) (show p ≤ 16 by omega)
      exact_mod_cast this
    have p0 : (0 : Int) < 2 ^ p := Int.pow_pos (by decide)
    generalize hE : env.set 17 (vd (.int (p : Int))) = E at *
    generalize hP : (2 : Int) ^ p = P at *
    have zP : P.natAbs < 2 ^ 200 := by omega
    simp [g4, g17, sh, num, hP, p0, zP]) (fun d hd _ => .inr ⟨by simp [h17, show 17 < env.length by omega], rfl⟩) (by simp)
  rw [c]
  congr 3
  rw [List.map_id]
  unfold bitsN nD
  rw [List.filter_map]
  refine congrArg (fun l => O.own (List.map O.val (List.map (fun x : Nat => PyData.int (x : Int)) l))) (List.filter_congr fun p hp => ?_)
  simp only [Function.comp, num, Int.toNat_natCast]
  have e : ((a : Int) / 2 ^ p) % 2 = ((a / 2 ^ p % 2 : Nat) : Int) := by push_cast; rfl
  show decide ((a : Int) / 2 ^ p % 2 = 1) = (a / 2 ^ p % 2 == 1)
  rw [Bool.eq_iff_iff, decide_eq_true_eq, beq_iff_eq, e]
  omega
theorem due_loop (x9 : Sl) : ∀ (l : List Nat) (acc : Nat) (y : Sl) (e0 : Pv.Env) (e1 : Pv.Env), e0.length = 10 → ∃ y', forL (fName 11) b2_u_law_are_sums_right (nD l) (e0 ++ [vi acc, y] ++ e1) = some (.nx (e0 ++ [vi ((l.foldl (· ^^^ ·) acc : Nat) : Int), y'] ++ e1))
  | [], acc, y, e0, e1, h => ⟨y, rfl⟩
  | a :: l, acc, y, e0, e1, h => by
    obtain ⟨y', q⟩ := due_loop x9 l (acc ^^^ a) (vi a) e0 e1 h
    match e0, h with
    | [s0, s1, s2, s3, s4, s5, s6, s7, s8, s9], _ =>
      exact ⟨y', forL_nx (e1 := [s0, s1, s2, s3, s4, s5, s6, s7, s8, s9] ++ [vi acc, vi a] ++ e1) (by simp) (by simp [b2_u_law_are_sums_right]) q⟩

theorem sums_st7 (FS FB FN : MF) {b4 : List O} {NA NB NS NP : List D} {i a b p mn due s X1 X2 : Int} {y' : Sl}
    (f5 : FS [vd (.tuple (NS ++ [.int s]))] = some (oi X2, [.emp])) (f6 : FB [vi a] = some (.val (.tuple NP), [.emp])) (f7 : FN [vd (.tuple NP)] = some (oi a, [.emp])) (cS1 : cutD NS none (some 1) = [.int s])
    (az1 : fAdd [.val (.tuple NS), .val (.tuple [.int s])] = some (.val (.tuple (NS ++ [.int s]))))
    (az0 : fAdd [.val (.list [.int X1, .int X1, .int 0, .int due]), .own [oi X2, .val (.tuple NP), .val (.tuple NP), oi a]] = some (.own ([PyData.int X1, .int X1, .int 0, .int due, .int X2, .tuple NP, .tuple NP, .int a].map .val))) :
    (mSet 12 takeF (mBin fAdd (mVar 12) (mLst (mCons (mUC (some [0]) [false] FS (mApp 0 1 mNil (mCons (mBin fAdd (mVar 9) (mBin fSlH (mVar 9) (mC (.int 1)))) mNil))) (mCons (mUC none [false] FB (mCons (mVar 4) mNil)) (mCons (mUC (some [0]) [false] FB (mApp 0 1 mNil (mCons (mVar 4) mNil))) (mCons (mUC none [false] FN (mCons (mVar 6) mNil)) mNil))))))) (SR (.wr (.own b4)) (vd (.tuple NA)) (vd (.tuple NB)) (vi i) (vi a) (vi b) (vd (.tuple NP)) (vi p) (vi (2 + mn)) (vd (.tuple NS)) (vi due) (y') (vd (.list [.int X1, .int X1, .int 0, .int due])) .emp .emp .emp .emp) = some (.nx (SR (.wr (.own b4)) (vd (.tuple NA)) (vd (.tuple NB)) (vi i) (vi a) (vi b) (vd (.tuple NP)) (vi p) (vi (2 + mn)) (vd (.tuple NS)) (vi due) (y') (vd (.list [.int X1, .int X1, .int 0, .int due, .int X2, .tuple NP, .tuple NP, .int a])) .emp .emp .emp .emp)) := by
  simp [-fAdd, fSlH, cutO, cS1, az1, az0, f5, f6, f7]
theorem sums_walk {bl b1 b2 b3 b4 b5 b6 : List O} {NA NB NS NP NM NF M1 M2 : List D} {LA LB i u a b p mn due s X1 X2 m fw V1 V2 : Int} {y' : Sl}
    (i1 : F_u_law_draw [.wr (.own bl), vi LA] = some (oi i, [.wr (.own b1), .emp]))
    (lA : (NA.length : Int) = LA)
    (lB : (NB.length : Int) = LB)
    (hu : F_u_law_draw [.wr (.own b1), vi (LA - 1)] = some (oi u, [.wr (.own b2), .emp]))
    (xa : atI NA i = some (.int a))
    (xb : atI NA ((i + 1 + u) % LA) = some (.int b))
    (LAp : 0 < LA)
    (LAz : LA.natAbs < 2 ^ 200)
    (hp : F_u_law_draw [.wr (.own b2), vi (LB - 3)] = some (oi p, [.wr (.own b3), .emp]))
    (hmn : F_u_law_draw [.wr (.own b3), vi 3] = some (oi mn, [.wr (.own b4), .emp]))
    (cS : cutD NB (some p) (some (p + (2 + mn))) = NS)
    (hl : forL (fName 11) b2_u_law_are_sums_right NS (SR (.wr (.own b4)) (vd (.tuple NA)) (vd (.tuple NB)) (vi i) (vi a) (vi b) (vd (.tuple NP)) (vi p) (vi (2 + mn)) (vd (.tuple NS)) (vi 0) .emp .emp .emp .emp .emp .emp) = some (.nx (SR (.wr (.own b4)) (vd (.tuple NA)) (vd (.tuple NB)) (vi i) (vi a) (vi b) (vd (.tuple NP)) (vi p) (vi (2 + mn)) (vd (.tuple NS)) (vi due) (y') .emp .emp .emp .emp .emp)))
    (f1 : F_numbers_summed [vi a, vi b] = some (oi X1, [.emp, .emp]))
    (f2 : F_numbers_summed [vi b, vi a] = some (oi X1, [.emp, .emp]))
    (f3 : F_numbers_summed [vi a, vi a] = some (oi 0, [.emp, .emp]))
    (f4 : F_summed_all [vd (.tuple NS)] = some (oi due, [.emp]))
    (f5 : F_summed_all [vd (.tuple (NS ++ [.int s]))] = some (oi X2, [.emp]))
    (f6 : F_bits_of [vi a] = some (.val (.tuple NP), [.emp]))
    (f7 : F_number_of_bits [vd (.tuple NP)] = some (oi a, [.emp]))
    (cS1 : cutD NS none (some 1) = [.int s])
    (xS : atI NS 0 = some (.int s))
    (x1 : Builtin.bitXor a b = X1)
    (x2 : Builtin.bitXor due s = X2)
    (is1 : F_u_law_is [vd (.list [.int X1, .int X1, .int 0, .int due, .int X2, .tuple NP, .tuple NP, .int a]), vd (.list [.int X1, .int X1, .int 0, .int due, .int X2, .tuple NP, .tuple NP, .int a])] = some (.val (.bool true), [.emp, .emp]))
    (hm : F_u_law_draw [.wr (.own b4), vi LA] = some (oi m, [.wr (.own b5), .emp]))
    (hfw : F_u_law_draw [.wr (.own b5), vi 17] = some (oi fw, [.wr (.own b6), .emp]))
    (cA : cutD NA none (some m) = NM)
    (cB : cutD NB none (some fw) = NF)
    (q1 : F_u_law_sums [vd (.tuple NM), vd (.bool false)] = some (.val (.list M1), [.emp, .emp]))
    (q2 : F_u_law_sums [vd (.tuple NF), vd (.bool true)] = some (.val (.list M2), [.emp, .emp]))
    (g1 : F_least_unbarred [vd (.tuple (.int 0 :: (NM ++ M1)))] = some (oi V1, [.emp]))
    (g2 : F_least_unbarred [vd (.tuple (.int 0 :: (NF ++ M2)))] = some (oi V2, [.emp]))
    (xm : atI NA m = some (.int V1))
    (xf : atI NB fw = some (.int V2))
    (is2 : F_u_law_is [vd (.list [.int V1, .int V2]), vd (.list [.int V1, .int V2])] = some (.val (.bool true), [.emp, .emp]))
    (z1 : NS.length + 1 ≤ 16777216)
    (z2 : NM.length ≤ 16777215)
    (z3 : NM.length + 1 + M1.length ≤ 16777216)
    (z4 : NF.length ≤ 16777215)
    (z5 : NF.length + 1 + M2.length ≤ 16777216)
    (pc : mComp (mRange1 (mCons (mC (.int 16)) mNil)) (fName 17) (mTst (mBin fEq (mBin fMod (mBin fDiv (mVar 4) (mBin fShl (mC (.int 1)) (mVar 17))) (mC (.int 2))) (mC (.int 1)))) (mVar 17) takeF [17] (SR (.wr (.own b2)) (vd (.tuple NA)) (vd (.tuple NB)) (vi i) (vi a) (vi b) .emp .emp .emp .emp .emp .emp .emp .emp .emp .emp .emp) = some (.tmp (.own (NP.map .val)), SR (.wr (.own b2)) (vd (.tuple NA)) (vd (.tuple NB)) (vi i) (vi a) (vi b) .emp .emp .emp .emp .emp .emp .emp .emp .emp .emp .emp)) :
    m_u_law_are_sums_right (SR (.wr (.own bl)) (vd (.tuple NA)) (vd (.tuple NB)) .emp .emp .emp .emp .emp .emp .emp .emp .emp .emp .emp .emp .emp .emp) = some (.rt (.val (.bool true)) (SR (.wr (.own b6)) (vd (.tuple NA)) (vd (.tuple NB)) (vi i) (vi a) (vi b) (vd (.tuple NP)) (vi p) (vi (2 + mn)) (vd (.tuple NS)) (vi due) (y') (vd (.list [.int X1, .int X1, .int 0, .int due, .int X2, .tuple NP, .tuple NP, .int a])) (vi m) (vi fw) (vd (.tuple (.int 0 :: (NM ++ M1)))) (vd (.tuple (.int 0 :: (NF ++ M2)))))) := by
  have az1 : fAdd [.val (.tuple NS), .val (.tuple [.int s])] = some (.val (.tuple (NS ++ [.int s]))) := fAdd_tt z1
  have az0 : fAdd [.val (.list [.int X1, .int X1, .int 0, .int due]), .own [oi X2, .val (.tuple NP), .val (.tuple NP), oi a]] = some (.own ([PyData.int X1, .int X1, .int 0, .int due, .int X2, .tuple NP, .tuple NP, .int a].map .val)) := fAdd_lo (ys := [.int X2, .tuple NP, .tuple NP, .int a]) rfl (by simp)
  have az2 : fAdd [.val (.tuple [.int 0]), .val (.tuple NM)] = some (.val (.tuple (.int 0 :: NM))) := fAdd_tt (by simp only [List.length_cons, List.length_nil]; omega)
  have az3 : fAdd [.val (.tuple (.int 0 :: NM)), .val (.tuple M1)] = some (.val (.tuple (.int 0 :: (NM ++ M1)))) := fAdd_tt (by simp only [List.length_cons]; omega)
  have az4 : fAdd [.val (.tuple [.int 0]), .val (.tuple NF)] = some (.val (.tuple (.int 0 :: NF))) := fAdd_tt (by simp only [List.length_cons, List.length_nil]; omega)
  have az5 : fAdd [.val (.tuple (.int 0 :: NF)), .val (.tuple M2)] = some (.val (.tuple (.int 0 :: (NF ++ M2)))) := fAdd_tt (by simp only [List.length_cons]; omega)
  refine seq_nx (e := SR (.wr (.own b1)) (vd (.tuple NA)) (vd (.tuple NB)) (vi i) .emp .emp .emp .emp .emp .emp .emp .emp .emp .emp .emp .emp .emp) (by simp [lA, i1]) ?_
  refine seq_nx (e := SR (.wr (.own b2)) (vd (.tuple NA)) (vd (.tuple NB)) (vi i) (vi a) (vi b) .emp .emp .emp .emp .emp .emp .emp .emp .emp .emp .emp) (by simp [lA, hu, xa, xb, LAp, LAz]) ?_
  refine seq_nx (e := SR (.wr (.own b2)) (vd (.tuple NA)) (vd (.tuple NB)) (vi i) (vi a) (vi b) (vd (.tuple NP)) .emp .emp .emp .emp .emp .emp .emp .emp .emp .emp) (by unfold c1_u_law_are_sums_right e1_u_law_are_sums_right; simp only [mSet, mCall, mCons, mNil, pc]; simp [itemsO]) ?_
  refine seq_nx (e := SR (.wr (.own b4)) (vd (.tuple NA)) (vd (.tuple NB)) (vi i) (vi a) (vi b) (vd (.tuple NP)) (vi p) (vi (2 + mn)) .emp .emp .emp .emp .emp .emp .emp .emp) (by simp [lB, hp, hmn]) ?_
  refine seq_nx (e := SR (.wr (.own b4)) (vd (.tuple NA)) (vd (.tuple NB)) (vi i) (vi a) (vi b) (vd (.tuple NP)) (vi p) (vi (2 + mn)) (vd (.tuple NS)) (vi 0) .emp .emp .emp .emp .emp .emp) (by simp [mSl2, cutO, cS]) ?_
  refine seq_nx (e := SR (.wr (.own b4)) (vd (.tuple NA)) (vd (.tuple NB)) (vi i) (vi a) (vi b) (vd (.tuple NP)) (vi p) (vi (2 + mn)) (vd (.tuple NS)) (vi due) (y') .emp .emp .emp .emp .emp) (by simp only [mFor]; simp [itemsO] at hl ⊢; exact hl) ?_
  refine seq_nx (e := SR (.wr (.own b4)) (vd (.tuple NA)) (vd (.tuple NB)) (vi i) (vi a) (vi b) (vd (.tuple NP)) (vi p) (vi (2 + mn)) (vd (.tuple NS)) (vi due) (y') (vd (.list [.int X1, .int X1, .int 0, .int due])) .emp .emp .emp .emp) (by simp [f1, f2, f3, f4]) ?_
  refine seq_nx (sums_st7 F_summed_all F_bits_of F_number_of_bits f5 f6 f7 cS1 az1 az0) ?_
  refine seq_nx (e := SR (.wr (.own b4)) (vd (.tuple NA)) (vd (.tuple NB)) (vi i) (vi a) (vi b) (vd (.tuple NP)) (vi p) (vi (2 + mn)) (vd (.tuple NS)) (vi due) (y') (vd (.list [.int X1, .int X1, .int 0, .int due, .int X2, .tuple NP, .tuple NP, .int a])) .emp .emp .emp .emp) (ifS_f (e := SR (.wr (.own b4)) (vd (.tuple NA)) (vd (.tuple NB)) (vi i) (vi a) (vi b) (vd (.tuple NP)) (vi p) (vi (2 + mn)) (vd (.tuple NS)) (vi due) (y') (vd (.list [.int X1, .int X1, .int 0, .int due, .int X2, .tuple NP, .tuple NP, .int a])) .emp .emp .emp .emp) (by simp [x1, x2, xS, is1]) rfl) ?_
  refine seq_nx (e := SR (.wr (.own b6)) (vd (.tuple NA)) (vd (.tuple NB)) (vi i) (vi a) (vi b) (vd (.tuple NP)) (vi p) (vi (2 + mn)) (vd (.tuple NS)) (vi due) (y') (vd (.list [.int X1, .int X1, .int 0, .int due, .int X2, .tuple NP, .tuple NP, .int a])) (vi m) (vi fw) .emp .emp) (by simp [lA, hm, hfw]) ?_
  refine seq_nx (e := SR (.wr (.own b6)) (vd (.tuple NA)) (vd (.tuple NB)) (vi i) (vi a) (vi b) (vd (.tuple NP)) (vi p) (vi (2 + mn)) (vd (.tuple NS)) (vi due) (y') (vd (.list [.int X1, .int X1, .int 0, .int due, .int X2, .tuple NP, .tuple NP, .int a])) (vi m) (vi fw) (vd (.tuple (.int 0 :: (NM ++ M1)))) .emp) (by simp [-fAdd, fSlH, cutO, cA, q1, itemsO, az2, az3]) ?_
  refine seq_nx (e := SR (.wr (.own b6)) (vd (.tuple NA)) (vd (.tuple NB)) (vi i) (vi a) (vi b) (vd (.tuple NP)) (vi p) (vi (2 + mn)) (vd (.tuple NS)) (vi due) (y') (vd (.list [.int X1, .int X1, .int 0, .int due, .int X2, .tuple NP, .tuple NP, .int a])) (vi m) (vi fw) (vd (.tuple (.int 0 :: (NM ++ M1)))) (vd (.tuple (.int 0 :: (NF ++ M2))))) (by simp [-fAdd, fSlH, cutO, cB, q2, itemsO, az4, az5]) ?_
  simp [g1, g2, xm, xf, is2]
theorem sums_right {bl : List O} (hb : BagOk bl) {n4 n5 : Nat} (h4 : 17 ≤ n4) (h4' : n4 ≤ 40) (h5 : 17 ≤ n5) (h5' : n5 ≤ 40) : ∃ bl', BagOk bl' ∧ F_u_law_are_sums_right [.wr (.own bl), vd (rowT W4 n4), vd (rowT W5 n5)] = some (.val (.bool true), [.wr (.own bl'), .emp, .emp]) := by
  obtain ⟨A, hA⟩ : ∃ A, A = W4.tab.take n4 := ⟨_, rfl⟩
  obtain ⟨B, hB⟩ : ∃ B, B = W5.tab.take n5 := ⟨_, rfl⟩
  have lA : A.length = n4 := by rw [hA, List.length_take, C4.len]; omega
  have lB : B.length = n5 := by rw [hB, List.length_take, C5.len]; omega
  have mA : ∀ x ∈ A, x < 80 := fun x hx => by
    have h : ∀ x ∈ W4.tab, x < 80 := by decide +kernel
    exact h x (List.mem_of_mem_take (hA ▸ hx))
  have mB : ∀ x ∈ B, x < 4096 := fun x hx => by
    have h : ∀ x ∈ W5.tab, x < 4096 := by decide +kernel
    exact h x (List.mem_of_mem_take (hB ▸ hx))
  have gA : ∀ m, m < n4 → A.getD m 0 = W4.tab.getD m 0 := fun m hm => by rw [hA]; exact getD_take hm
  have gB : ∀ m, m < n5 → B.getD m 0 = W5.tab.getD m 0 := fun m hm => by rw [hB]; exact getD_take hm
  have tA : ∀ m, m ≤ n4 → A.take m = W4.tab.take m := fun m hm => by rw [hA, List.take_take, Nat.min_eq_left hm]
  have tB : ∀ m, m ≤ n5 → B.take m = W5.tab.take m := fun m hm => by rw [hB, List.take_take, Nat.min_eq_left hm]
  have eA : rowT W4 n4 = .tuple (nD A) := by rw [hA]; rfl
  have eB : rowT W5 n5 = .tuple (nD B) := by rw [hB]; rfl
  rw [eA, eB]
  obtain ⟨LA, hLA⟩ : ∃ LA : Int, LA = (A.length : Int) := ⟨_, rfl⟩
  obtain ⟨LB, hLB⟩ : ∃ LB : Int, LB = (B.length : Int) := ⟨_, rfl⟩
  obtain ⟨i, b1, ok1, i0, i1, hi⟩ := draw_spec hb (b := LA) (by omega) (by omega)
  obtain ⟨u, b2, ok2, u0, u1, hu⟩ := draw_spec ok1 (b := LA - 1) (by omega) (by omega)
  have v0 : 0 ≤ (i + 1 + u) % LA := Int.emod_nonneg _ (by omega)
  have v1 : (i + 1 + u) % LA < LA := Int.emod_lt_of_pos _ (by omega)
  have xa := atI_nD (l := A) i0 (by omega)
  have xb := atI_nD (l := A) v0 (by omega)
  have ma : A.getD i.toNat 0 < 80 := mA _ (getD_mem (by omega))
  have mb : A.getD ((i + 1 + u) % LA).toNat 0 < 80 := mA _ (getD_mem (by omega))
  obtain ⟨a, ha⟩ : ∃ a, a = A.getD i.toNat 0 := ⟨_, rfl⟩
  obtain ⟨b, hb'⟩ : ∃ b, b = A.getD ((i + 1 + u) % LA).toNat 0 := ⟨_, rfl⟩
  rw [← ha] at xa ma
  rw [← hb'] at xb mb
  obtain ⟨at', b3, ok3, at0, at1, hat⟩ := draw_spec ok2 (b := LB - 3) (by omega) (by omega)
  obtain ⟨mn, b4, ok4, mn0, mn1, hmn⟩ := draw_spec ok3 (b := 3) (by decide) (by decide)
  obtain ⟨S, hS⟩ : ∃ S, S = (B.drop at'.toNat).take (2 + mn).toNat := ⟨_, rfl⟩
  have lS : S.length = (2 + mn).toNat := by rw [hS, List.length_take, List.length_drop]; omega
  have cS : cutD (nD B) (some at') (some (at' + (2 + mn))) = nD S := by
    have := cut_mid (nD B) at'.toNat (2 + mn).toNat (by rw [len_nD]; omega)
    rw [nD_drop, nD_take, ← hS, show ((at'.toNat + (2 + mn).toNat : Nat) : Int) = at' + (2 + mn) by omega, show ((at'.toNat : Nat) : Int) = at' by omega] at this
    exact this
  obtain ⟨s, S', hSS⟩ : ∃ s S', S = s :: S' := by
    cases S with
    | nil => simp at lS; omega
    | cons s S' => exact ⟨s, S', rfl⟩
  have mS : ∀ x ∈ S, x < 4096 := fun x hx => mB x (by rw [hS] at hx; exact List.mem_of_mem_drop (List.mem_of_mem_take hx))
  obtain ⟨due, hdue⟩ : ∃ due, due = S.foldl (· ^^^ ·) 0 := ⟨_, rfl⟩
  have xl : ∀ (l : List Nat) (acc : Nat), acc < 4096 → (∀ x ∈ l, x < 4096) → l.foldl (· ^^^ ·) acc < 4096 := by
    intro l
    induction l with
    | nil => intro acc h _; exact h
    | cons x l ih => intro acc h hl; exact ih _ (Nat.xor_lt_two_pow (n := 12) h (hl x (by simp))) (fun y hy => hl y (by simp [hy]))
  have ld : due < 4096 := by rw [hdue]; exact xl S 0 (by decide) mS
  have ls : s < 4096 := mS s (by rw [hSS]; simp)
  have lds : due ^^^ s < 4096 := Nat.xor_lt_two_pow (n := 12) ld ls
  have lab : a ^^^ b < 128 := Nat.xor_lt_two_pow (n := 7) (by omega) (by omega)
  have f1 := xor_fn a b
  have f2 := xor_fn b a
  have f3 := xor_fn a a
  rw [Nat.xor_comm b a] at f2
  rw [Nat.xor_self] at f3
  have f4 := summed_fn S
  rw [← hdue] at f4
  have f5 := summed_fn (S ++ [s])
  rw [List.foldl_append, ← hdue] at f5
  have f5' : F_summed_all [vd (.tuple (nD S ++ [.int (s : Int)]))] = some (oi ((due ^^^ s : Nat) : Int), [.emp]) := by
    rw [nD_append] at f5; exact f5
  have f6 := bits_fn ma
  have f7 := number_fn ma
  obtain ⟨m, b5, ok5, m0, m1, hm⟩ := draw_spec ok4 (b := LA) (by omega) (by omega)
  obtain ⟨fw, b6, ok6, fw0, fw1, hfw⟩ := draw_spec ok5 (b := 17) (by decide) (by decide)
  have g1 := next_fn C4 rfl false sums_mem4 (m := m.toNat) (by omega)
  have g2 := next_fn C5 rfl true sums_mem5 (m := fw.toNat) (by omega)
  have q1 := sums_fn C4 rfl (fun _ _ => rfl) false (m := m.toNat) (by omega)
  have q2 := sums_fn C5 rfl (fun _ _ => rfl) true (m := fw.toNat) (by omega)
  have l1 := sums_len C4 false m.toNat (by omega)
  have l2 := sums_len C5 true fw.toNat (by omega)
  have cA : cutD (nD A) none (some m) = nD (W4.tab.take m.toNat) := by
    have := cut_take (nD A) m.toNat
    rw [nD_take, tA _ (by omega), show ((m.toNat : Nat) : Int) = m by omega] at this
    exact this
  have cB : cutD (nD B) none (some fw) = nD (W5.tab.take fw.toNat) := by
    have := cut_take (nD B) fw.toNat
    rw [nD_take, tB _ (by omega), show ((fw.toNat : Nat) : Int) = fw by omega] at this
    exact this
  have xm := atI_nD (l := A) m0 (by omega)
  have xf := atI_nD (l := B) fw0 (by omega)
  rw [gA _ (by omega)] at xm
  rw [gB _ (by omega)] at xf
  have tm : W4.tab.getD m.toNat 0 < 8990 := C4.low _ (by omega)
  have tf : W5.tab.getD fw.toNat 0 < 8990 := C5.low _ (by omega)
  have tl1 : (W4.tab.take m.toNat).length ≤ 40 := by rw [List.length_take, C4.len]; omega
  have tl2 : (W5.tab.take fw.toNat).length ≤ 40 := by rw [List.length_take, C5.len]; omega
  generalize W4.tab.take m.toNat = TM at *
  generalize W5.tab.take fw.toNat = TF at *
  generalize sumsL W4 false m.toNat = SM at *
  generalize sumsL W5 true fw.toNat = SFw at *
  generalize W4.tab.getD m.toNat 0 = vm at *
  generalize W5.tab.getD fw.toNat 0 = vf at *
  have cS1 : cutD (nD S) none (some 1) = [.int (s : Int)] := by
    have := cut_take (nD S) 1
    rw [hSS] at this ⊢
    exact this
  have lS5 : S.length ≤ 5 := by omega
  have xS : atI (nD S) 0 = some (.int (s : Int)) := by
    have := atI_nD (l := S) (i := 0) (by decide) (by omega)
    rw [this, hSS]; rfl
  have LAp : 0 < LA := by omega
  have LAz : LA.natAbs < 2 ^ 200 := by omega
  -- what is compared
  obtain ⟨X1, hX1⟩ : ∃ X1 : Int, X1 = ((a ^^^ b : Nat) : Int) := ⟨_, rfl⟩
  obtain ⟨X2, hX2⟩ : ∃ X2 : Int, X2 = ((due ^^^ s : Nat) : Int) := ⟨_, rfl⟩
  have is1 : F_u_law_is [vd (.list [.int X1, .int X1, .int 0, .int (due : Int), .int X2, .tuple (nD (bitsN a)), .tuple (nD (bitsN a)), .int (a : Int)]), vd (.list [.int X1, .int X1, .int 0, .int (due : Int), .int X2, .tuple (nD (bitsN a)), .tuple (nD (bitsN a)), .int (a : Int)])] = some (.val (.bool true), [.emp, .emp]) := by
    have fb : fines (nD (bitsN a)) = true := fines_iff.mpr fun x hx => by
      obtain ⟨p, hp, rfl⟩ := mem_nD.mp hx
      have : p < 16 := by simp [bitsN] at hp; exact hp.1
      simp [fine]; omega
    have db : PyData.depthAll (nD (bitsN a)) ≤ 0 := depths_le fun x hx => by
      obtain ⟨p, hp, rfl⟩ := mem_nD.mp hx
      simp [PyData.depth]
    have bb := bulks_le (n := 0) (xs := nD (bitsN a)) fun x hx => by
      obtain ⟨p, hp, rfl⟩ := mem_nD.mp hx
      simp [PyData.bulk]
    have lb : (bitsN a).length ≤ 16 := by
      have := List.length_filter_le (fun p => a / 2 ^ p % 2 == 1) (List.range 16)
      simpa [bitsN] using this
    rw [len_nD] at bb
    have z1 : X1.natAbs < 10 ^ 12 := by omega
    have z2 : X2.natAbs < 10 ^ 12 := by omega
    have z3 : due < 10 ^ 12 := by omega
    have z4 : a < 10 ^ 12 := by omega
    refine is_fn ?_ ?_ ?_
    · simp [fine, fines, fb, z1, z2, z3, z4]
    · simp only [PyData.depth, PyData.depthAll]; omega
    · simp only [PyData.bulk, PyData.bulkAll]; omega
  obtain ⟨V1, hV1⟩ : ∃ V1 : Int, V1 = (vm : Int) := ⟨_, rfl⟩
  obtain ⟨V2, hV2⟩ : ∃ V2 : Int, V2 = (vf : Int) := ⟨_, rfl⟩
  have is2 : F_u_law_is [vd (.list [.int V1, .int V2]), vd (.list [.int V1, .int V2])] = some (.val (.bool true), [.emp, .emp]) := by
    have z1 : V1.natAbs < 10 ^ 12 := by omega
    have z2 : V2.natAbs < 10 ^ 12 := by omega
    exact is_fn (by simp [fine, fines, z1, z2]) (by simp [PyData.depth, PyData.depthAll]) (by simp [PyData.bulk, PyData.bulkAll])
  rw [← hX1] at f1 f2
  rw [← hX2] at f5'
  rw [← hV1] at g1 xm
  rw [← hV2] at g2 xf
  refine ⟨b6, ok6, ?_⟩
  have hz6 : S.length + 1 ≤ 16777216 := by omega
  have hz7 : 1 + TM.length ≤ 16777216 ∧ 1 + TM.length + SM.length ≤ 16777216 := by omega
  have hz8 : 1 + TF.length ≤ 16777216 ∧ 1 + TF.length + SFw.length ≤ 16777216 := by omega
  obtain ⟨y', hl⟩ := due_loop .emp S 0 .emp [.wr (.own b4), vd (.tuple (nD A)), vd (.tuple (nD B)), vi i, vi a, vi b, vd (.tuple (nD (bitsN a))), vi at', vi (2 + mn), vd (.tuple (nD S))] [.emp, .emp, .emp, .emp, .emp, .emp] rfl
  rw [← hdue] at hl
  have pc := places_comp (SR (.wr (.own b2)) (vd (.tuple (nD A))) (vd (.tuple (nD B))) (vi i) (vi a) (vi b) .emp .emp .emp .emp .emp .emp .emp .emp .emp .emp .emp) a ma rfl rfl rfl
  have w := sums_walk hi (by rw [len_nD, hLA]) (by rw [len_nD, hLB]) hu xa xb LAp LAz hat hmn cS hl f1 f2 f3 f4 f5' f6 f7 cS1 xS (by rw [hX1]; simp) (by rw [hX2]; simp) is1 hm hfw cA cB q1 q2 (by rw [nD_append, nD_append] at g1; exact g1) (by rw [nD_append, nD_append] at g2; exact g2) xm xf is2 (by rw [len_nD]; omega) (by rw [len_nD]; omega) (by rw [len_nD, len_nD]; omega) (by rw [len_nD]; omega) (by rw [len_nD, len_nD]; omega) pc
  exact mDefB3 w
end K37

namespace K37
open PySem PySem.Spec L2 Pv
/-- the frame of the law -/
abbrev LF (sc : Sl) (bl : List O) (w : Sl) (as ls : List O) (s5 s6 s7 s8 s9 s10 s11 s12 s13 : Sl) : Pv.Env := [sc, .wr (.own bl), w, .wr (.own as), .wr (.own ls), s5, s6, s7, s8, s9, s10, s11, s12, s13, .emp, .emp]
def Asked (d : D) : Prop := ∃ W n, IsWay W ∧ n ≤ 40 ∧ d = .tuple [.str W.nm, .int ((n : Nat) : Int), rowT W n]
theorem b1_walk {sc w s6 s7 s8 s9 s10 s11 s12 s13 : Sl} {bl c1 c2 c3 c4 c5 c6 c7 as ls : List O} {wn : Str} {u1 u2 u3 v1 v2 n o1 o M : Int} {L : List D}
    (k1 : F_u_law_draw [.wr (.own bl), vi 40] = some (oi u1, [.wr (.own c1), .emp])) (k2 : F_u_law_draw [.wr (.own c1), vi 40] = some (oi u2, [.wr (.own c2), .emp])) (k3 : F_u_law_draw [.wr (.own c2), vi 12] = some (oi u3, [.wr (.own c3), .emp]))
    (k4 : F_u_law_pick [.wr (.own c3), vd (.list [.int (1 + u1), .int (1 + u2), .int 40, .int (1 + u3)])] = some (oi n, [.wr (.own c4), .emp]))
    (k5 : F_u_law_draw [.wr (.own c4), vi 40] = some (oi v1, [.wr (.own c5), .emp])) (k6 : F_u_law_draw [.wr (.own c5), vi 24] = some (oi v2, [.wr (.own c6), .emp]))
    (k7 : F_u_law_pick [.wr (.own c6), vd (.list [.int (1 + v1), .int (1 + v2), .int 1])] = some (oi o1, [.wr (.own c7), .emp]))
    (ho : o = if o1 = n then 1 + n % 40 else o1) (hM : M = max n (max o 17)) (hg : F_u_law_going [vi M, vd (.str wn)] = some (.val (.tuple L), [.emp, .emp])) (ha : as.length ≤ 100) (hl : ls.length ≤ 100) :
    b1_law (LF sc bl w as ls (vd (.str wn)) s6 s7 s8 s9 s10 s11 s12 s13) = some (.nx (LF sc c7 w (as ++ [.val (.tuple [.str wn, .int n, .tuple (cutD L none (some n))]), .val (.tuple [.str wn, .int o, .tuple (cutD L none (some o))])]) (ls ++ [.val (.tuple L)]) (vd (.str wn)) (vi n) (vi o) (vd (.tuple L)) s9 s10 s11 s12 s13)) := by
  have a1 : as.length < 16777216 := by omega
  have a2 : as.length + 1 < 16777216 := by omega
  have l1 : ls.length < 16777216 := by omega
  refine seq_nx (e := LF sc c4 w as ls (vd (.str wn)) (vi n) s7 s8 s9 s10 s11 s12 s13) (by simp [k1, k2, k3, k4]) ?_
  refine seq_nx (e := LF sc c7 w as ls (vd (.str wn)) (vi n) (vi o1) s8 s9 s10 s11 s12 s13) (by simp [k5, k6, k7]) ?_
  refine seq_nx (e := LF sc c7 w as ls (vd (.str wn)) (vi n) (vi o) s8 s9 s10 s11 s12 s13) (by
    by_cases c : o1 = n
    · simp [c, ho]
    · simp [c, ho]) ?_
  refine seq_nx (e := LF sc c7 w as ls (vd (.str wn)) (vi n) (vi o) (vd (.tuple L)) s9 s10 s11 s12 s13) (by
    rw [hM] at hg
    simp [hg]) ?_
  refine seq_nx (e := LF sc c7 w as (ls ++ [.val (.tuple L)]) (vd (.str wn)) (vi n) (vi o) (vd (.tuple L)) s9 s10 s11 s12 s13) (by simp [l1]) ?_
  refine seq_nx (e := LF sc c7 w (as ++ [.val (.tuple [.str wn, .int n, .tuple (cutD L none (some n))])]) (ls ++ [.val (.tuple L)]) (vd (.str wn)) (vi n) (vi o) (vd (.tuple L)) s9 s10 s11 s12 s13) (by simp [a1, fSlH, cutO]) ?_
  simp [fSlH, cutO, a2]
theorem b1_spec {sc w s5 s6 s7 s8 s9 s10 s11 s12 s13 : Sl} {bl as ls : List O} (hb : BagOk bl) {W : Way} (hW : IsWay W) (ha : as.length ≤ 100) (hl : ls.length ≤ 100) :
    ∃ (bl' : List O) (N : Nat) (d1 d2 : D) (t6 t7 t8 : Sl), BagOk bl' ∧ 17 ≤ N ∧ N ≤ 40 ∧ Asked d1 ∧ Asked d2 ∧ b1_law (LF sc bl w as ls (vd (.str W.nm)) s6 s7 s8 s9 s10 s11 s12 s13) = some (.nx (LF sc bl' w (as ++ [.val d1, .val d2]) (ls ++ [.val (rowT W N)]) (vd (.str W.nm)) t6 t7 t8 s9 s10 s11 s12 s13)) := by
  obtain ⟨u1, c1, ok1, u10, u11, k1⟩ := draw_spec hb (b := 40) (by decide) (by decide)
  obtain ⟨u2, c2, ok2, u20, u21, k2⟩ := draw_spec ok1 (b := 40) (by decide) (by decide)
  obtain ⟨u3, c3, ok3, u30, u31, k3⟩ := draw_spec ok2 (b := 12) (by decide) (by decide)
  obtain ⟨d, c4, ok4, hm, k4⟩ := pick_spec ok3 (ds := [.int (1 + u1), .int (1 + u2), .int 40, .int (1 + u3)]) (by simp) (by simp)
  have : ∃ n, d = .int n ∧ 1 ≤ n ∧ n ≤ 40 := by
    simp at hm
    rcases hm with rfl | rfl | rfl | rfl <;> exact ⟨_, rfl, by omega, by omega⟩
  obtain ⟨n, rfl, n0, n1⟩ := this
  obtain ⟨v1, c5, ok5, v10, v11, k5⟩ := draw_spec ok4 (b := 40) (by decide) (by decide)
  obtain ⟨v2, c6, ok6, v20, v21, k6⟩ := draw_spec ok5 (b := 24) (by decide) (by decide)
  obtain ⟨d, c7, ok7, hm, k7⟩ := pick_spec ok6 (ds := [.int (1 + v1), .int (1 + v2), .int 1]) (by simp) (by simp)
  have : ∃ n, d = .int n ∧ 1 ≤ n ∧ n ≤ 40 := by
    simp at hm
    rcases hm with rfl | rfl | rfl <;> exact ⟨_, rfl, by omega, by omega⟩
  obtain ⟨o1, rfl, o10, o11⟩ := this
  obtain ⟨o, ho⟩ : ∃ o, o = if o1 = n then 1 + n % 40 else o1 := ⟨_, rfl⟩
  have o0 : 1 ≤ o ∧ o ≤ 40 := by rw [ho]; split <;> omega
  obtain ⟨M, hM⟩ : ∃ M, M = max n (max o 17) := ⟨_, rfl⟩
  have g := goingW hW (n := M.toNat) (by omega)
  rw [show ((M.toNat : Nat) : Int) = M by omega] at g
  have b := b1_walk (sc := sc) (w := w) (s6 := s6) (s7 := s7) (s8 := s8) (s9 := s9) (s10 := s10) (s11 := s11) (s12 := s12) (s13 := s13) (as := as) (ls := ls) k1 k2 k3 k4 k5 k6 k7 ho hM g ha hl
  have cut : ∀ x : Int, 1 ≤ x → x ≤ M → PyData.tuple (cutD (nD (W.tab.take M.toNat)) none (some x)) = rowT W x.toNat := by
    intro x x0 x1
    have := cut_take (nD (W.tab.take M.toNat)) x.toNat
    rw [show ((x.toNat : Nat) : Int) = x by omega, nD_take, List.take_take, Nat.min_eq_left (by omega)] at this
    rw [this]; rfl
  rw [cut n n0 (by omega), cut o o0.1 (by omega)] at b
  refine ⟨c7, M.toNat, _, _, _, _, _, ok7, by omega, by omega, ⟨W, n.toNat, hW, by omega, ?_⟩, ⟨W, o.toNat, hW, by omega, ?_⟩, b⟩
  · rw [show ((n.toNat : Nat) : Int) = n by omega]
  · rw [show ((o.toNat : Nat) : Int) = o by omega]
theorem b2_walk {sc w s7 s8 s11 s12 s13 : Sl} {bl as ls : List O} {wn : Str} {n k : Int} {r : D} (h : F_u_law_row [vd (.str wn), vi n, vd (.bool (decide (k % 2 = 1)))] = some (.val r, [.emp, .emp, .emp])) (hi : F_u_law_is [vd r, vd r] = some (.val (.bool true), [.emp, .emp])) :
    b2_law (LF sc bl w as ls (vd (.str wn)) (vi n) s7 s8 (vi k) (vd r) s11 s12 s13) = some (.nx (LF sc bl w as ls (vd (.str wn)) (vi n) s7 s8 (vi k) (vd r) s11 s12 s13)) := by
  refine ifS_f (e := LF sc bl w as ls (vd (.str wn)) (vi n) s7 s8 (vi k) (vd r) s11 s12 s13) ?_ rfl
  simp [h, hi]
theorem row_is {W : Way} (hW : IsWay W) {n : Nat} (hn : n ≤ 40) : F_u_law_is [vd (rowT W n), vd (rowT W n)] = some (.val (.bool true), [.emp, .emp]) := by
  have hs : ∀ x ∈ W.tab, x < 4096 := by
    rcases hW with rfl | rfl | rfl | rfl | rfl <;> decide +kernel
  have fb : fines (nD (W.tab.take n)) = true := fines_iff.mpr fun x hx => by
    obtain ⟨p, hp, rfl⟩ := mem_nD.mp hx
    have := hs p (List.mem_of_mem_take hp)
    simp [fine]; omega
  have db : PyData.depthAll (nD (W.tab.take n)) ≤ 0 := depths_le fun x hx => by
    obtain ⟨p, hp, rfl⟩ := mem_nD.mp hx
    simp [PyData.depth]
  have bb := bulks_le (n := 0) (xs := nD (W.tab.take n)) fun x hx => by
    obtain ⟨p, hp, rfl⟩ := mem_nD.mp hx
    simp [PyData.bulk]
  have lb : (W.tab.take n).length ≤ 40 := by rw [List.length_take]; omega
  rw [len_nD] at bb
  refine is_fn ?_ ?_ ?_
  · simp only [rowT, fine]; exact fb
  · simp only [rowT, PyData.depth]; omega
  · simp only [rowT, PyData.bulk]; omega
def C9 (s : Sl) : Prop := s = .emp ∨ ∃ d, s = vd d
theorem b2_loop {sc w s7 s8 s11 s12 s13 : Sl} {bl as ls : List O} : ∀ (L : List D) (k : Nat) (s5 s6 s9 s10 : Sl), (∀ d ∈ L, Asked d) → C9 s9 → ∃ t5 t6 t9 t10, C9 t9 ∧
    forL (fTup 2 (fCons (fName 9) (fCons (fTup 3 (fCons (fName 5) (fCons (fName 6) (fCons (fName 10) fNil)))) fNil))) b2_law (enumD k L) (LF sc bl w as ls s5 s6 s7 s8 s9 s10 s11 s12 s13) = some (.nx (LF sc bl w as ls t5 t6 s7 s8 t9 t10 s11 s12 s13))
  | [], k, s5, s6, s9, s10, h, h9 => ⟨s5, s6, s9, s10, h9, rfl⟩
  | d :: L, k, s5, s6, s9, s10, h, h9 => by
    obtain ⟨W, n, hW, hn, rfl⟩ := h d (by simp)
    obtain ⟨t5, t6, t9, t10, q9, q⟩ := b2_loop (sc := sc) (w := w) (s7 := s7) (s8 := s8) (s11 := s11) (s12 := s12) (s13 := s13) (bl := bl) (as := as) (ls := ls) L (k + 1) (vd (.str W.nm)) (vi n) (vi k) (vd (rowT W n)) (fun d hd => h d (by simp [hd])) (.inr ⟨_, rfl⟩)
    refine ⟨t5, t6, t9, t10, q9, ?_⟩
    rw [enumD]
    exact forL_nx (e1 := LF sc bl w as ls (vd (.str W.nm)) (vi n) s7 s8 (vi k) (vd (rowT W n)) s11 s12 s13) (by simp) (b2_walk (row_fn hW hn _) (row_is hW hn)) q
end K37

namespace K37
open PySem PySem.Spec L2 Pv
section
variable {sc w s5 s6 s7 s8 s9 s10 s11 s12 s13 : Sl} {bl as ls : List O}
def NumK (d : D) : Prop := ∃ k : Nat, d = .int k ∧ k ≤ 10 ^ 12
def NumX (d : D) : Prop := ∃ k : Nat, d = .int k ∧ k < 3 ^ 38
def ternG (d : D) : D := .int (tern (num d).toNat)
def placeG (d : D) : D := plD (place (num d).toNat)
theorem ways_loop {wv : Sl} {bl : List O} (hb : BagOk bl) : ∀ (Ws : List Way) (as ls : List O) (s5 s6 s7 s8 : Sl) (bl : List O), BagOk bl → (∀ W ∈ Ws, IsWay W) → as.length + 2 * Ws.length ≤ 90 → ls.length + Ws.length ≤ 90 → ∃ (bl' : List O) (ds : List D) (Ns : List Nat) (t5 t6 t7 t8 : Sl), BagOk bl' ∧ ds.length = 2 * Ws.length ∧ (∀ d ∈ ds, Asked d) ∧ Ns.length = Ws.length ∧ (∀ N ∈ Ns, 17 ≤ N ∧ N ≤ 40) ∧
    forL (fName 5) b1_law (Ws.map fun W => .str W.nm) (LF sc bl wv as ls s5 s6 s7 s8 s9 s10 s11 s12 s13) = some (.nx (LF sc bl' wv (as ++ ds.map .val) (ls ++ (List.zipWith rowT Ws Ns).map .val) t5 t6 t7 t8 s9 s10 s11 s12 s13))
  | [], as, ls, s5, s6, s7, s8, bl, hb, hw, ha, hl => ⟨bl, [], [], s5, s6, s7, s8, hb, rfl, by simp, rfl, by simp, by simp [forL]⟩
  | W :: Ws, as, ls, s5, s6, s7, s8, bl, hb, hw, ha, hl => by
    simp at ha hl
    obtain ⟨b1, N, d1, d2, t6, t7, t8, ok1, n0, n1, a1, a2, h⟩ := b1_spec (sc := sc) (w := wv) (s5 := s5) (s6 := s6) (s7 := s7) (s8 := s8) (s9 := s9) (s10 := s10) (s11 := s11) (s12 := s12) (s13 := s13) hb (hw W (by simp)) (as := as) (ls := ls) (by omega) (by omega)
    obtain ⟨b2, ds, Ns, u5, u6, u7, u8, ok2, l1, l2, l3, l4, q⟩ := ways_loop hb Ws (as ++ [.val d1, .val d2]) (ls ++ [.val (rowT W N)]) (vd (.str W.nm)) t6 t7 t8 b1 ok1 (fun W h => hw W (by simp [h])) (by simp; omega) (by simp; omega)
    refine ⟨b2, d1 :: d2 :: ds, N :: Ns, u5, u6, u7, u8, ok2, by simp [l1]; omega, ?_, by simp [l3], ?_, ?_⟩
    · intro d hd
      simp at hd
      rcases hd with rfl | rfl | hd
      · exact a1
      · exact a2
      · exact l2 d hd
    · intro M hM
      simp at hM
      rcases hM with rfl | hM
      · exact ⟨n0, n1⟩
      · exact l4 M hM
    · rw [List.map_cons]
      refine forL_nx (e1 := LF sc bl wv as ls (vd (.str W.nm)) s6 s7 s8 s9 s10 s11 s12 s13) (by simp) h ?_
      rw [q]
      simp
theorem lc3 (hb : BagOk bl) : ∃ (qs : List D) (bl' : List O), BagOk bl' ∧ qs.length = 6 ∧ (∀ q ∈ qs, NumK q) ∧
    lcL c3_law mYes e3_law takeF [14] (rangeD 0 6) [] (LF sc bl w as ls s5 s6 s7 s8 s9 s10 s11 s12 s13) = some (qs.map O.val, LF sc bl' w as ls s5 s6 s7 s8 s9 s10 s11 s12 s13) := by
  obtain ⟨qs, e, l1, l2, ⟨bl', rfl, ok⟩, l4⟩ := lcL_all (f := c3_law) (tt := mYes) (te := e3_law) (tk := takeF) (vs := [14]) (fun env => ∃ bl, env = LF sc bl w as ls s5 s6 s7 s8 s9 s10 s11 s12 s13 ∧ BagOk bl) NumK (rangeD 0 6) [] (LF sc bl w as ls s5 s6 s7 s8 s9 s10 s11 s12 s13) (by
    rintro d hd env ⟨b, rfl, ok⟩
    obtain ⟨r, b', ok', r1, hr⟩ := someK_spec ok
    exact ⟨_, _, _, _, _, by simp [c3_law]; exact rfl, rfl, by simp [e3_law, hr]; first | exact ⟨rfl, rfl⟩ | exact rfl, by simp; first | exact ⟨rfl, rfl⟩ | exact rfl, ⟨r, rfl, r1⟩, b', by simp [wipeE], ok'⟩) (by simp) ⟨bl, rfl, hb⟩
  exact ⟨qs, bl', ok, by simpa using l1, l2, by simpa using l4⟩
theorem lc7 (hb : BagOk bl) : ∃ (qs : List D) (bl' : List O), BagOk bl' ∧ qs.length = 8 ∧ (∀ q ∈ qs, NumX q) ∧
    lcL c7_law mYes e7_law takeF [14] (rangeD 0 8) [] (LF sc bl w as ls s5 s6 s7 s8 s9 s10 s11 s12 s13) = some (qs.map O.val, LF sc bl' w as ls s5 s6 s7 s8 s9 s10 s11 s12 s13) := by
  obtain ⟨qs, e, l1, l2, ⟨bl', rfl, ok⟩, l4⟩ := lcL_all (f := c7_law) (tt := mYes) (te := e7_law) (tk := takeF) (vs := [14]) (fun env => ∃ bl, env = LF sc bl w as ls s5 s6 s7 s8 s9 s10 s11 s12 s13 ∧ BagOk bl) NumX (rangeD 0 8) [] (LF sc bl w as ls s5 s6 s7 s8 s9 s10 s11 s12 s13) (by
    rintro d hd env ⟨b, rfl, ok⟩
    obtain ⟨r, b', ok', r1, hr⟩ := someX_spec ok
    exact ⟨_, _, _, _, _, by simp [c7_law]; exact rfl, rfl, by simp [e7_law, hr]; first | exact ⟨rfl, rfl⟩ | exact rfl, by simp; first | exact ⟨rfl, rfl⟩ | exact rfl, ⟨r, rfl, r1⟩, b', by simp [wipeE], ok'⟩) (by simp) ⟨bl, rfl, hb⟩
  exact ⟨qs, bl', ok, by simpa using l1, l2, by simpa using l4⟩
/-- a comprehension over k (slot 9) -/
theorem lcK {te : ME} {qs : List D} (h9 : C9 s9) (hq : ∀ q ∈ qs, NumK q) (hl : qs.length ≤ 100) (he : ∀ k : Nat, k ≤ 10 ^ 12 → te (LF sc bl w as ls s5 s6 s7 s8 (vi k) s10 s11 s12 s13) = some (.tmp (oi (tern k)), LF sc bl w as ls s5 s6 s7 s8 (vi k) s10 s11 s12 s13)) {src : MI} (hs : src (LF sc bl w as ls s5 s6 s7 s8 s9 s10 s11 s12 s13) = some (qs, LF sc bl w as ls s5 s6 s7 s8 s9 s10 s11 s12 s13)) :
    mComp src (fName 9) mYes te takeF [9] (LF sc bl w as ls s5 s6 s7 s8 s9 s10 s11 s12 s13) = some (.tmp (.own ((qs.map ternG).map .val)), LF sc bl w as ls s5 s6 s7 s8 s9 s10 s11 s12 s13) :=
  comp1 ternG hs (by rcases h9 with h | ⟨d, h⟩ <;> rw [h]; exact .inl rfl; exact .inr ⟨_, rfl⟩) (fun d hd => by
    obtain ⟨k, rfl, k1⟩ := hq d hd
    exact he k k1) (by omega)
theorem lcX {te : ME} {qs : List D} (hq : ∀ q ∈ qs, NumX q) (hl : qs.length ≤ 100) (he : ∀ k : Nat, k < 3 ^ 38 → te ((LF sc bl w as ls s5 s6 s7 s8 s9 s10 s11 s12 s13).set 15 (vi k)) = some (.tmp (.val (plD (place k))), (LF sc bl w as ls s5 s6 s7 s8 s9 s10 s11 s12 s13).set 15 (vi k))) {src : MI} (hs : src (LF sc bl w as ls s5 s6 s7 s8 s9 s10 s11 s12 s13) = some (qs, LF sc bl w as ls s5 s6 s7 s8 s9 s10 s11 s12 s13)) :
    mComp src (fName 15) mYes te takeF [15] (LF sc bl w as ls s5 s6 s7 s8 s9 s10 s11 s12 s13) = some (.tmp (.own ((qs.map placeG).map .val)), LF sc bl w as ls s5 s6 s7 s8 s9 s10 s11 s12 s13) :=
  comp1 placeG hs (.inl rfl) (fun d hd => by
    obtain ⟨k, rfl, k1⟩ := hq d hd
    exact he k k1) (by omega)
end
theorem ternD_ok {k : Nat} (h : k ≤ 10 ^ 12) : fineW (ternG (.int (k : Int))) = true ∧ (ternG (.int (k : Int))).depth ≤ 0 ∧ (ternG (.int (k : Int))).bulk ≤ 0 := by
  have := tern_le 40 k (by omega)
  have e : (3 : Int) ^ 40 < 10 ^ 60 := by decide
  have z : (tern k).natAbs < 10 ^ 60 := by omega
  refine ⟨?_, by simp [ternG, PyData.depth], by simp [ternG, PyData.bulk]⟩
  show decide ((tern k).natAbs < 10 ^ 60) = true
  exact decide_eq_true z
theorem placeD_ok {k : Nat} (h : k < 3 ^ 38) : fineW (placeG (.int (k : Int))) = true ∧ (placeG (.int (k : Int))).depth ≤ 0 ∧ (placeG (.int (k : Int))).bulk ≤ 0 := by
  show fineW (plD (place k)) = true ∧ (plD (place k)).depth ≤ 0 ∧ (plD (place k)).bulk ≤ 0
  cases e : place k with
  | none => simp [plD, fineW, PyData.depth, PyData.bulk]
  | some v =>
    have := place_le 38 k v h e
    have e2 : (2 : Int) ^ 38 < 10 ^ 60 := by decide
    have z : v.natAbs < 10 ^ 60 := by omega
    refine ⟨?_, by simp [plD, PyData.depth], by simp [plD, PyData.bulk]⟩
    show decide (v.natAbs < 10 ^ 60) = true
    exact decide_eq_true z
theorem list_isW {ds : List D} (hl : ds.length ≤ 1000) (hf : ∀ d ∈ ds, fineW d = true ∧ d.depth ≤ 0 ∧ d.bulk ≤ 0) : F_u_law_is [vd (.list ds), vd (.list ds)] = some (.val (.bool true), [.emp, .emp]) := by
  refine is_fnW (by simp only [fineW]; exact finesW_iff.mpr fun x hx => (hf x hx).1) ?_ ?_
  · have := depths_le (n := 0) fun x hx => (hf x hx).2.1
    simp only [PyData.depth]; omega
  · have := bulks_le (n := 0) fun x hx => (hf x hx).2.2
    simp only [PyData.bulk]; omega
theorem law_true : lawTrue 63 F_law := by
  intro ns hns
  obtain ⟨b0, ok0, h0⟩ := own_spec ns hns
  obtain ⟨sc, hsc⟩ : ∃ sc : Sl, sc = vd (.list (ns.map .int)) := ⟨_, rfl⟩
  obtain ⟨wv, hwv⟩ : ∃ wv : Sl, wv = vd (.list [.str "steps", .str "once", .str "twice", .str "carries", .str "fours"]) := ⟨_, rfl⟩
  have key : Rt (m_law [vd (.list (ns.map .int)), .emp, .emp, .emp, .emp, .emp, .emp, .emp, .emp, .emp, .emp, .emp, .emp, .emp, .emp, .emp]) := by
    unfold m_law
    refine seq_rt (e := [sc, .wr (.own b0), .emp, .emp, .emp, .emp, .emp, .emp, .emp, .emp, .emp, .emp, .emp, .emp, .emp, .emp]) (by simp [h0, hsc]) ?_
    refine seq_rt (e := LF sc b0 wv [] [] .emp .emp .emp .emp .emp .emp .emp .emp .emp) (by simp [hwv]) ?_
    obtain ⟨b1, ds, Ns, t5, t6, t7, t8, ok1, l1, l2, l3, l4, q⟩ := ways_loop (sc := sc) (s9 := .emp) (s10 := .emp) (s11 := .emp) (s12 := .emp) (s13 := .emp) (wv := wv) ok0 [W1, W2, W3, W4, W5] [] [] .emp .emp .emp .emp b0 ok0 (by simp [IsWay]) (by simp) (by simp)
    simp only [List.length_cons, List.length_nil] at l1 l3
    obtain ⟨N1, N2, N3, N4, N5, rfl⟩ : ∃ N1 N2 N3 N4 N5, Ns = [N1, N2, N3, N4, N5] := by
      match Ns, l3 with
      | [N1, N2, N3, N4, N5], _ => exact ⟨N1, N2, N3, N4, N5, rfl⟩
    simp only [List.nil_append, List.zipWith, List.map] at q
    refine seq_rt (e := LF sc b1 wv (ds.map .val) [.val (rowT W1 N1), .val (rowT W2 N2), .val (rowT W3 N3), .val (rowT W4 N4), .val (rowT W5 N5)] t5 t6 t7 t8 .emp .emp .emp .emp .emp) (by
      simp only [mFor]
      rw [hwv] at q ⊢
      simp [itemsO]
      exact q) ?_
    obtain ⟨ls, hls⟩ : ∃ ls : List O, ls = [.val (rowT W1 N1), .val (rowT W2 N2), .val (rowT W3 N3), .val (rowT W4 N4), .val (rowT W5 N5)] := ⟨_, rfl⟩
    rw [← hls]
    obtain ⟨L, hL⟩ : ∃ L, L = ds ++ cutD ds none (some 1) ++ cutD ds (some (-1)) none := ⟨_, rfl⟩
    have hLA : ∀ d ∈ L, Asked d := by
      intro d hd
      rw [hL] at hd
      simp only [List.mem_append] at hd
      rcases hd with (hd | hd) | hd
      · exact l2 d hd
      · exact l2 d (cut_mem hd)
      · exact l2 d (cut_mem hd)
    have c1 := cut_len (ds := ds) (lo := none) (hi := some 1)
    have c2 := cut_len (ds := ds) (lo := some (-1)) (hi := none)
    obtain ⟨u5, u6, u9, u10, h9, hq⟩ := b2_loop (sc := sc) (w := wv) (s7 := t7) (s8 := t8) (s11 := .emp) (s12 := .emp) (s13 := .emp) (bl := b1) (as := ds.map .val) (ls := ls) L 0 t5 t6 .emp .emp hLA (.inl rfl)
    have z1 : ds.length + (cutD ds none (some 1)).length ≤ 16777216 := by omega
    have z2 : ds.length + (cutD ds none (some 1)).length + (cutD ds (some (-1)) none).length ≤ 16777216 := by omega
    have ev : vals (L.map O.val) = some L := vals_map L
    refine seq_rt (e := LF sc b1 wv (ds.map .val) ls u5 u6 t7 t8 u9 u10 .emp .emp .emp) (by
      simp only [mFor]
      rw [hL] at hq
      have evs : vals (List.map O.val ds ++ (List.map O.val (cutD ds none (some 1)) ++ List.map O.val (cutD ds (some (-1)) none))) = some (ds ++ (cutD ds none (some 1) ++ cutD ds (some (-1)) none)) := by
        rw [← List.map_append, ← List.map_append]; exact vals_map _
      simp [itemsO, itemsL, fSlH, fSlL, cutO, z1, z2, evs]
      simp at hq
      exact hq) ?_
    obtain ⟨qs, b2, ok2, q1, q2, q3⟩ := lc3 (sc := sc) (w := wv) (as := ds.map .val) (ls := ls) (s5 := u5) (s6 := u6) (s7 := t7) (s8 := t8) (s9 := u9) (s10 := u10) (s11 := .emp) (s12 := .emp) (s13 := .emp) ok1
    refine seq_rt (e := LF sc b2 wv (ds.map .val) ls u5 u6 t7 t8 u9 u10 (vd (.list qs)) .emp .emp) (by simp [mComp, small62, isClean, wipeE, restE, q3]) ?_
    have k1 := lcK (sc := sc) (bl := b2) (w := wv) (as := ds.map .val) (ls := ls) (s5 := u5) (s6 := u6) (s7 := t7) (s8 := t8) (s10 := u10) (s11 := vd (.list qs)) (s12 := .emp) (s13 := .emp) (te := e4_law) (src := mItems (mVar 11)) h9 q2 (by omega) (fun k hk => by simp [e4_law, own_item_fn (show k < 2 ^ 40 by omega)]) (by simp [itemsO])
    refine seq_rt (e := LF sc b2 wv (ds.map .val) ls u5 u6 t7 t8 u9 u10 (vd (.list qs)) (vd (.list (qs.map ternG))) .emp) (by
      unfold c4_law
      simp only [mSet, k1]
      simp) ?_
    have k2 := lcK (sc := sc) (bl := b2) (w := wv) (as := ds.map .val) (ls := ls) (s5 := u5) (s6 := u6) (s7 := t7) (s8 := t8) (s10 := u10) (s11 := vd (.list qs)) (s12 := vd (.list (qs.map ternG))) (s13 := .emp) (te := e5_law) (src := mItems (mBin fSlH (mVar 11) (mC (.int 4)))) (qs := cutD qs none (some 4)) h9 (fun x hx => q2 x (cut_mem hx)) (Nat.le_trans cut_len (by omega)) (fun k hk => by simp [e5_law, item_fn (show k < 2 ^ 100 by omega)]) (by simp [itemsO, fSlH, cutO])
    have k3 := lcK (sc := sc) (bl := b2) (w := wv) (as := ds.map .val) (ls := ls) (s5 := u5) (s6 := u6) (s7 := t7) (s8 := t8) (s10 := u10) (s11 := vd (.list qs)) (s12 := vd (.list (qs.map ternG))) (s13 := .emp) (te := e6_law) (src := mItems (mBin fSlL (mVar 11) (mC (.int 4)))) (qs := cutD qs (some 4) none) h9 (fun x hx => q2 x (cut_mem hx)) (Nat.le_trans cut_len (by omega)) (fun k hk => by simp [e6_law, item_fn (show k < 2 ^ 100 by omega)]) (by simp [itemsO, fSlL, cutO])
    have sp := cut_split qs 4
    have sp' : (cutD qs none (some 4)).map ternG ++ (cutD qs (some 4) none).map ternG = qs.map ternG := by rw [← List.map_append]; exact congrArg (List.map ternG) sp
    have spl : (cutD qs none (some 4)).length + (cutD qs (some 4) none).length ≤ 16777216 := by
      have := congrArg List.length sp
      rw [List.length_append] at this
      have e : (cutD qs none (some 4)).length + (cutD qs (some 4) none).length = qs.length := this
      omega
    refine seq_rt (e := LF sc b2 wv (ds.map .val) ls u5 u6 t7 t8 u9 u10 (vd (.list qs)) (vd (.list (qs.map ternG))) (vd (.list (qs.map ternG)))) (by
      have q := set_ownF (i := 13) (add_comps k2 k3 (by simpa using spl)) (by simp)
      rw [sp'] at q
      exact q) ?_
    have i1 := list_isW (ds := qs.map ternG) (by simp; omega) (by
      intro d hd
      rw [List.mem_map] at hd
      obtain ⟨x, hx, rfl⟩ := hd
      obtain ⟨k, rfl, k1⟩ := q2 x hx
      exact ternD_ok k1)
    refine seq_rt (e := LF sc b2 wv (ds.map .val) ls u5 u6 t7 t8 u9 u10 (vd (.list qs)) (vd (.list (qs.map ternG))) (vd (.list (qs.map ternG)))) (by simp [i1]) ?_
    obtain ⟨xs, b3, ok3, p1, p2, p3⟩ := lc7 (sc := sc) (w := wv) (as := ds.map .val) (ls := ls) (s5 := u5) (s6 := u6) (s7 := t7) (s8 := t8) (s9 := u9) (s10 := u10) (s11 := vd (.list qs)) (s12 := vd (.list (qs.map ternG))) (s13 := vd (.list (qs.map ternG))) ok2
    refine seq_rt (e := LF sc b3 wv (ds.map .val) ls u5 u6 t7 t8 u9 u10 (vd (.list xs)) (vd (.list (qs.map ternG))) (vd (.list (qs.map ternG)))) (by simp [mComp, small62, isClean, wipeE, restE, p3]) ?_
    have j1 := lcX (sc := sc) (bl := b3) (w := wv) (as := ds.map .val) (ls := ls) (s5 := u5) (s6 := u6) (s7 := t7) (s8 := t8) (s9 := u9) (s10 := u10) (s11 := vd (.list xs)) (s12 := vd (.list (qs.map ternG))) (s13 := vd (.list (qs.map ternG))) (te := e8_law) (src := mItems (mVar 11)) p2 (by omega) (fun k hk => by simp [e8_law, own_place_fn hk]) (by simp [itemsO])
    refine seq_rt (e := LF sc b3 wv (ds.map .val) ls u5 u6 t7 t8 u9 u10 (vd (.list xs)) (vd (.list (xs.map placeG))) (vd (.list (qs.map ternG)))) (by
      unfold c8_law
      simp only [mSet, j1]
      simp) ?_
    have h100 : ∀ k : Nat, k < 3 ^ 38 → k < 3 ^ 100 := fun k hk => Nat.lt_trans hk (by decide)
    have j2 := lcX (sc := sc) (bl := b3) (w := wv) (as := ds.map .val) (ls := ls) (s5 := u5) (s6 := u6) (s7 := t7) (s8 := t8) (s9 := u9) (s10 := u10) (s11 := vd (.list xs)) (s12 := vd (.list (xs.map placeG))) (s13 := vd (.list (qs.map ternG))) (te := e9_law) (src := mItems (mBin fSlH (mVar 11) (mC (.int 5)))) (qs := cutD xs none (some 5)) (fun x hx => p2 x (cut_mem hx)) (Nat.le_trans cut_len (by omega)) (fun k hk => by simp [e9_law, place_fn (h100 k hk)]) (by simp [itemsO, fSlH, cutO])
    have j3 := lcX (sc := sc) (bl := b3) (w := wv) (as := ds.map .val) (ls := ls) (s5 := u5) (s6 := u6) (s7 := t7) (s8 := t8) (s9 := u9) (s10 := u10) (s11 := vd (.list xs)) (s12 := vd (.list (xs.map placeG))) (s13 := vd (.list (qs.map ternG))) (te := e10_law) (src := mItems (mBin fSlL (mVar 11) (mC (.int 5)))) (qs := cutD xs (some 5) none) (fun x hx => p2 x (cut_mem hx)) (Nat.le_trans cut_len (by omega)) (fun k hk => by simp [e10_law, place_fn (h100 k hk)]) (by simp [itemsO, fSlL, cutO])
    have tp := cut_split xs 5
    have tp' : (cutD xs none (some 5)).map placeG ++ (cutD xs (some 5) none).map placeG = xs.map placeG := by rw [← List.map_append]; exact congrArg (List.map placeG) tp
    have tpl : (cutD xs none (some 5)).length + (cutD xs (some 5) none).length ≤ 16777216 := by
      have := congrArg List.length tp
      rw [List.length_append] at this
      have e : (cutD xs none (some 5)).length + (cutD xs (some 5) none).length = xs.length := this
      omega
    refine seq_rt (e := LF sc b3 wv (ds.map .val) ls u5 u6 t7 t8 u9 u10 (vd (.list xs)) (vd (.list (xs.map placeG))) (vd (.list (xs.map placeG)))) (by
      have q := set_ownF (i := 13) (add_comps j2 j3 (by simpa using tpl)) (by simp)
      rw [tp'] at q
      exact q) ?_
    obtain ⟨x, xr, rfl⟩ : ∃ x xr, xs = x :: xr := by cases xs with | nil => simp at p1 | cons x xr => exact ⟨x, xr, rfl⟩
    obtain ⟨kx, rfl, hkx⟩ := p2 x (by simp)
    have px := place_fn (h100 kx hkx)
    have cut1 : cutD ((PyData.int (kx : Int) :: xr).map placeG) none (some 1) = [plD (place kx)] := by
      have := cut_take ((PyData.int (kx : Int) :: xr).map placeG) 1
      rw [show ((1 : Nat) : Int) = 1 from rfl] at this
      rw [this]; rfl
    have i2 := list_isW (ds := (PyData.int (kx : Int) :: xr).map placeG ++ [plD (place kx)]) (by simp at p1 ⊢; omega) (by
      intro d hd
      simp only [List.mem_append, List.mem_singleton] at hd
      rcases hd with hd | rfl
      · rw [List.mem_map] at hd
        obtain ⟨y, hy, rfl⟩ := hd
        obtain ⟨k, rfl, k1⟩ := p2 y hy
        exact placeD_ok k1
      · exact placeD_ok hkx)
    have a0 : atI (PyData.int (kx : Int) :: xr) 0 = some (.int (kx : Int)) := atI_zero _ _
    generalize hX : (PyData.int (kx : Int) :: xr).map placeG = X at *
    generalize hX2 : (PyData.int (kx : Int) :: xr) = X2 at *
    have zX : X.length + 1 ≤ 16777216 := by rw [← hX, List.length_map]; omega
    have az : fAdd [.val (.list X), .own [.val (plD (place kx))]] = some (.own ((X ++ [plD (place kx)]).map .val)) := fAdd_lo (ys := [plD (place kx)]) rfl (by simpa using zX)
    have az' : fAdd [.val (.list X), .own ([plD (place kx)].map .val)] = some (.own ((X ++ [plD (place kx)]).map .val)) := az
    refine seq_rt (e := LF sc b3 wv (ds.map .val) ls u5 u6 t7 t8 u9 u10 (vd (.list X2)) (vd (.list X)) (vd (.list X))) (by
      refine ifS_f (e := LF sc b3 wv (ds.map .val) ls u5 u6 t7 t8 u9 u10 (vd (.list X2)) (vd (.list X)) (vd (.list X))) ?_ rfl
      simp [-fAdd, a0, px, az, fSlH, cutO, itemsL, cut1, az', i2]) ?_
    obtain ⟨b4, ok4, sr⟩ := sums_right ok3 (l4 N4 (by simp)).1 (l4 N4 (by simp)).2 (l4 N5 (by simp)).1 (l4 N5 (by simp)).2
    have x3 : atI ls 3 = some (O.val (rowT W4 N4)) := by rw [hls]; rfl
    have x4 : atI ls 4 = some (O.val (rowT W5 N5)) := by rw [hls]; rfl
    exact ⟨_, by simp [x3, x4, sr]; exact rfl⟩
  obtain ⟨e, he⟩ := key
  exact ⟨maskE [false] e, by simp [F_law, he]⟩
end K37

namespace K37
open PySem PySem.Spec PyProof.Rows L2 Pv
abbrev tN_ := 0
/-- what the top has written -/
structure Txt (K : PySem.W.Frag) (mg : Str → Option Value) where
  a_figures_row : Addr
  d_figures_row : FuncData
  F_figures_row : Fun K "figures_row" "figures_row" (top 7) a_figures_row d_figures_row
  m_figures_row : mg "figures_row" = some (.ref a_figures_row)
  b_figures_row : Binds K d_figures_row ["k"] []
  a_steps_item : Addr
  d_steps_item : FuncData
  F_steps_item : Fun K "steps_item" "steps_item" (top 8) a_steps_item d_steps_item
  m_steps_item : mg "steps_item" = some (.ref a_steps_item)
  b_steps_item : Binds K d_steps_item ["k"] []
  a_steps_place : Addr
  d_steps_place : FuncData
  F_steps_place : Fun K "steps_place" "steps_place" (top 9) a_steps_place d_steps_place
  m_steps_place : mg "steps_place" = some (.ref a_steps_place)
  b_steps_place : Binds K d_steps_place ["x"] []
  a_u_law_own_bag : Addr
  d_u_law_own_bag : FuncData
  F_u_law_own_bag : Fun K "_law_own_bag" "_law_own_bag" (top 15) a_u_law_own_bag d_u_law_own_bag
  m_u_law_own_bag : mg "_law_own_bag" = some (.ref a_u_law_own_bag)
  b_u_law_own_bag : Binds K d_u_law_own_bag ["script"] []
  a_u_law_draw : Addr
  d_u_law_draw : FuncData
  F_u_law_draw : Fun K "_law_draw" "_law_draw" (top 16) a_u_law_draw d_u_law_draw
  m_u_law_draw : mg "_law_draw" = some (.ref a_u_law_draw)
  b_u_law_draw : Binds K d_u_law_draw ["bag", "below"] []
  a_u_law_pick : Addr
  d_u_law_pick : FuncData
  F_u_law_pick : Fun K "_law_pick" "_law_pick" (top 17) a_u_law_pick d_u_law_pick
  m_u_law_pick : mg "_law_pick" = some (.ref a_u_law_pick)
  b_u_law_pick : Binds K d_u_law_pick ["bag", "some"] []
  a_u_law_is : Addr
  d_u_law_is : FuncData
  F_u_law_is : Fun K "_law_is" "_law_is" (top 19) a_u_law_is d_u_law_is
  m_u_law_is : mg "_law_is" = some (.ref a_u_law_is)
  b_u_law_is : Binds K d_u_law_is ["told", "due"] []
  a_u_law_going : Addr
  d_u_law_going : FuncData
  F_u_law_going : Fun K "_law_going" "_law_going" (top 20) a_u_law_going d_u_law_going
  m_u_law_going : mg "_law_going" = some (.ref a_u_law_going)
  b_u_law_going : Binds K d_u_law_going ["n", "way"] []
  a_steps_free : Addr
  d_steps_free : FuncData
  F_steps_free : Fun K "steps_free" "steps_free" (top 10) a_steps_free d_steps_free
  m_steps_free : mg "steps_free" = some (.ref a_steps_free)
  b_steps_free : Binds K d_steps_free ["n"] []
  a_sums_free : Addr
  d_sums_free : FuncData
  F_sums_free : Fun K "sums_free" "sums_free" (top 11) a_sums_free d_sums_free
  m_sums_free : mg "sums_free" = some (.ref a_sums_free)
  b_sums_free : Binds K d_sums_free ["n", "is_twice"] []
  a_carries_free : Addr
  d_carries_free : FuncData
  F_carries_free : Fun K "carries_free" "carries_free" (top 12) a_carries_free d_carries_free
  m_carries_free : mg "carries_free" = some (.ref a_carries_free)
  b_carries_free : Binds K d_carries_free ["n"] []
  a_fours_free : Addr
  d_fours_free : FuncData
  F_fours_free : Fun K "fours_free" "fours_free" (top 13) a_fours_free d_fours_free
  m_fours_free : mg "fours_free" = some (.ref a_fours_free)
  b_fours_free : Binds K d_fours_free ["n"] []
  a_u_law_row : Addr
  d_u_law_row : FuncData
  F_u_law_row : Fun K "_law_row" "_law_row" (top 21) a_u_law_row d_u_law_row
  m_u_law_row : mg "_law_row" = some (.ref a_u_law_row)
  b_u_law_row : Binds K d_u_law_row ["way", "n", "is_named"] []
  a_u_law_own_item : Addr
  d_u_law_own_item : FuncData
  F_u_law_own_item : Fun K "_law_own_item" "_law_own_item" (top 22) a_u_law_own_item d_u_law_own_item
  m_u_law_own_item : mg "_law_own_item" = some (.ref a_u_law_own_item)
  b_u_law_own_item : Binds K d_u_law_own_item ["k"] []
  a_u_law_own_place : Addr
  d_u_law_own_place : FuncData
  F_u_law_own_place : Fun K "_law_own_place" "_law_own_place" (top 23) a_u_law_own_place d_u_law_own_place
  m_u_law_own_place : mg "_law_own_place" = some (.ref a_u_law_own_place)
  b_u_law_own_place : Binds K d_u_law_own_place ["x"] []
  a_u_law_great : Addr
  d_u_law_great : FuncData
  F_u_law_great : Fun K "_law_great" "_law_great" (top 18) a_u_law_great d_u_law_great
  m_u_law_great : mg "_law_great" = some (.ref a_u_law_great)
  b_u_law_great : Binds K d_u_law_great ["bag", "below"] []
  a_u_law_some_k : Addr
  d_u_law_some_k : FuncData
  F_u_law_some_k : Fun K "_law_some_k" "_law_some_k" (top 24) a_u_law_some_k d_u_law_some_k
  m_u_law_some_k : mg "_law_some_k" = some (.ref a_u_law_some_k)
  b_u_law_some_k : Binds K d_u_law_some_k ["bag"] []
  a_u_law_some_x : Addr
  d_u_law_some_x : FuncData
  F_u_law_some_x : Fun K "_law_some_x" "_law_some_x" (top 25) a_u_law_some_x d_u_law_some_x
  m_u_law_some_x : mg "_law_some_x" = some (.ref a_u_law_some_x)
  b_u_law_some_x : Binds K d_u_law_some_x ["bag"] []
  a_numbers_summed : Addr
  d_numbers_summed : FuncData
  F_numbers_summed : Fun K "numbers_summed" "numbers_summed" (top 1) a_numbers_summed d_numbers_summed
  m_numbers_summed : mg "numbers_summed" = some (.ref a_numbers_summed)
  b_numbers_summed : Binds K d_numbers_summed ["a", "b"] []
  a_summed_all : Addr
  d_summed_all : FuncData
  F_summed_all : Fun K "summed_all" "summed_all" (top 2) a_summed_all d_summed_all
  m_summed_all : mg "summed_all" = some (.ref a_summed_all)
  b_summed_all : Binds K d_summed_all ["numbers"] []
  a_bits_of : Addr
  d_bits_of : FuncData
  F_bits_of : Fun K "bits_of" "bits_of" (top 3) a_bits_of d_bits_of
  m_bits_of : mg "bits_of" = some (.ref a_bits_of)
  b_bits_of : Binds K d_bits_of ["a"] []
  a_number_of_bits : Addr
  d_number_of_bits : FuncData
  F_number_of_bits : Fun K "number_of_bits" "number_of_bits" (top 4) a_number_of_bits d_number_of_bits
  m_number_of_bits : mg "number_of_bits" = some (.ref a_number_of_bits)
  b_number_of_bits : Binds K d_number_of_bits ["bits"] []
  a_least_unbarred : Addr
  d_least_unbarred : FuncData
  F_least_unbarred : Fun K "least_unbarred" "least_unbarred" (top 5) a_least_unbarred d_least_unbarred
  m_least_unbarred : mg "least_unbarred" = some (.ref a_least_unbarred)
  b_least_unbarred : Binds K d_least_unbarred ["numbers"] []
  a_u_law_sums : Addr
  d_u_law_sums : FuncData
  F_u_law_sums : Fun K "_law_sums" "_law_sums" (top 26) a_u_law_sums d_u_law_sums
  m_u_law_sums : mg "_law_sums" = some (.ref a_u_law_sums)
  b_u_law_sums : Binds K d_u_law_sums ["taken", "is_three"] []
  a_u_law_are_sums_right : Addr
  d_u_law_are_sums_right : FuncData
  F_u_law_are_sums_right : Fun K "_law_are_sums_right" "_law_are_sums_right" (top 27) a_u_law_are_sums_right d_u_law_are_sums_right
  m_u_law_are_sums_right : mg "_law_are_sums_right" = some (.ref a_u_law_are_sums_right)
  b_u_law_are_sums_right : Binds K d_u_law_are_sums_right ["bag", "carries", "fours"] []
  a_law : Addr
  d_law : FuncData
  F_law : Fun K "law" "law" (top 28) a_law d_law
  m_law : mg "law" = some (.ref a_law)
  b_law : Binds K d_law ["script"] []
  k_steps_free_0_n : KB d_steps_free ["n"] ["n"] 0 [0]
  k_carries_free_0_n : KB d_carries_free ["n"] ["n"] 0 [0]
  k_fours_free_0_n : KB d_fours_free ["n"] ["n"] 0 [0]
  k_sums_free_0_n_is_twice : KB d_sums_free ["n", "is_twice"] ["n", "is_twice"] 0 [0, 1]
  k_numbers_summed_0_a_b : KB d_numbers_summed ["a", "b"] ["a", "b"] 0 [0, 1]
  k_summed_all_0_numbers : KB d_summed_all ["numbers"] ["numbers"] 0 [0]
  k_bits_of_0_a : KB d_bits_of ["a"] ["a"] 0 [0]
  k_least_unbarred_0_numbers : KB d_least_unbarred ["numbers"] ["numbers"] 0 [0]
  k_steps_item_0_k : KB d_steps_item ["k"] ["k"] 0 [0]
  k_steps_place_0_x : KB d_steps_place ["x"] ["x"] 0 [0]
  z_abs : mg "abs" = none
  z_enumerate : mg "enumerate" = none
  z_len : mg "len" = none
  z_list : mg "list" = none
  z_max : mg "max" = none
  z_range : mg "range" = none
  z_repr : mg "repr" = none
  z_reversed : mg "reversed" = none
  z_sum : mg "sum" = none
  z_tuple : mg "tuple" = none
section
variable {P : Program} {w : World} {K : PySem.W.Frag} {mg : Str → Option Value} {base : Heap}
abbrev N_figures_row : List Str := ["k", "found"]
theorem sc_figures_row : FnScope N_figures_row ["k"] (defScope (top 7)) := ⟨rfl, rfl, rfl, by decide +kernel, rfl, by decide +kernel, by decide +kernel⟩
theorem ok_figures_row (T : Txt K mg) : FnG P w K mg base 1 T.a_figures_row T.d_figures_row ["k"] (spF K 1 F_figures_row) :=
  fn_def (k := 0) (io := [false]) (n := 2) (m := m_figures_row) (N := N_figures_row) T.F_figures_row sc_figures_row rfl rfl fun cdv A outer s H hr hgd => by
    have u0 := hu0 hr
    have u1 := hu1 hr
    have u64 := hu64 hr
    have u65 := hu65 hr
    exact (vss_cons (vs_set (i := 1) takeV_ok rfl sc_figures_row.nd rfl (Or.inl rfl) (ve_lst va_nil))
    (vss_cons (vs_while PassesOwn.never (vt_cmp (r0 op_gt) fGt_ok (ve_var (pv 0)) (ve_const pe_int fun _ => .int _) (nomark _))
      (vss_cons (vs_expr (ve_meth PySem.F.plainAttrs_list PySem.F.slot_list_append PySem.F.type_list_append mt_append lAppend_ok (pv 1) (va_cons (ve_bin op_mod fMod_ok (ve_var (pv 0)) (ve_const pe_int fun _ => .int _)) va_nil)))
    (vss_one (vs_set (i := 0) takeF_ok rfl sc_figures_row.nd rfl (Or.inl rfl) (ve_bin op_fdivW fDiv_ok (ve_var (pv 0)) (ve_const pe_int fun _ => .int _))))))
    (vss_one (vs_ret takeM_ok (ve_var (pv 1))))))
abbrev N_steps_item : List Str := ["k", "found", "figure"]
theorem sc_steps_item : FnScope N_steps_item ["k"] (defScope (top 8)) := ⟨rfl, rfl, rfl, by decide +kernel, rfl, by decide +kernel, by decide +kernel⟩
theorem ok_steps_item (T : Txt K mg) : FnG P w K mg base 2 T.a_steps_item T.d_steps_item ["k"] (spF K 1 F_steps_item) :=
  fn_def (k := 1) (io := [false]) (n := 3) (m := m_steps_item) (N := N_steps_item) T.F_steps_item sc_steps_item rfl rfl fun cdv A outer s H hr hgd => by
    have u0 := hu0 hr
    have u1 := hu1 hr
    have u64 := hu64 hr
    have u65 := hu65 hr
    exact (vss_cons (vs_set (i := 1) takeF_ok rfl sc_steps_item.nd rfl (Or.inl rfl) (ve_const pe_int fun _ => .int _))
    (vss_cons (vs_for PassesOwn.never rfl (vi_rev rfl T.z_reversed (ve_call (k := 1) (io := [false]) (F := F_figures_row) (ok_figures_row T) (hr.mono (by decide)) hgd rfl T.m_figures_row T.F_figures_row.kp T.b_figures_row (va_cons (ve_var (pv 0)) va_nil))) (vg_name (i := 2) rfl sc_steps_item.nd rfl (Or.inl rfl))
      (vss_one (vs_set (i := 1) takeF_ok rfl sc_steps_item.nd rfl (Or.inl rfl) (ve_bin op_addA fAdd_ok (ve_bin op_mulA fMul_ok (ve_const pe_int fun _ => .int _) (ve_var (pv 1))) (ve_var (pv 2))))))
    (vss_one (vs_ret takeM_ok (ve_var (pv 1))))))
abbrev N_steps_place : List Str := ["x", "found", "worth"]
theorem sc_steps_place : FnScope N_steps_place ["x"] (defScope (top 9)) := ⟨rfl, rfl, rfl, by decide +kernel, rfl, by decide +kernel, by decide +kernel⟩
theorem ok_steps_place (T : Txt K mg) : FnG P w K mg base 1 T.a_steps_place T.d_steps_place ["x"] (spF K 1 F_steps_place) :=
  fn_def (k := 0) (io := [false]) (n := 3) (m := m_steps_place) (N := N_steps_place) T.F_steps_place sc_steps_place rfl rfl fun cdv A outer s H hr hgd => by
    have u0 := hu0 hr
    have u1 := hu1 hr
    have u64 := hu64 hr
    have u65 := hu65 hr
    exact (vss_cons (vs_asg (ve_tup (va_cons (ve_const pe_int fun _ => .int _) (va_cons (ve_const pe_int fun _ => .int _) va_nil))) (vg_tup (n := 2) rfl (vgs_cons (vg_name (i := 1) rfl sc_steps_place.nd rfl (Or.inl rfl)) (vgs_cons (vg_name (i := 2) rfl sc_steps_place.nd rfl (Or.inl rfl)) vgs_nil))))
    (vss_cons (vs_while PassesOwn.never (vt_cmp (r0 op_gt) fGt_ok (ve_var (pv 0)) (ve_const pe_int fun _ => .int _) (nomark _))
      (vss_cons (vs_if (vt_cmp (op_eqA u64) fEq_ok (ve_bin op_mod fMod_ok (ve_var (pv 0)) (ve_const pe_int fun _ => .int _)) (ve_const pe_int fun _ => .int _) (nomark _))
      (vss_one (vs_ret takeM_ok (ve_const pe_non fun _ => .non)))
      vss_nil)
    (vss_one (vs_par3 (i := 1) (j := 2) (l := 0) takeF_ok rfl rfl rfl rfl sc_steps_place.nd rfl rfl rfl (by decide) (by decide) (by decide) rfl rfl rfl (va_cons (ve_bin op_addA fAdd_ok (ve_var (pv 1)) (ve_bin op_mulA fMul_ok (ve_bin op_mod fMod_ok (ve_var (pv 0)) (ve_const pe_int fun _ => .int _)) (ve_var (pv 2)))) (va_cons (ve_bin op_mulA fMul_ok (ve_const pe_int fun _ => .int _) (ve_var (pv 2))) (va_cons (ve_bin op_fdivW fDiv_ok (ve_var (pv 0)) (ve_const pe_int fun _ => .int _)) va_nil))) rfl))))
    (vss_one (vs_ret takeM_ok (ve_var (pv 1))))))
abbrev N_u_law_own_bag : List Str := ["script", "cells", "mixed", "cell"]
theorem sc_u_law_own_bag : FnScope N_u_law_own_bag ["script"] (defScope (top 15)) := ⟨rfl, rfl, rfl, by decide +kernel, rfl, by decide +kernel, by decide +kernel⟩
theorem ok_u_law_own_bag (T : Txt K mg) : FnG P w K mg base 1 T.a_u_law_own_bag T.d_u_law_own_bag ["script"] (spF K 1 F_u_law_own_bag) :=
  fn_def (k := 0) (io := [false]) (n := 4) (m := m_u_law_own_bag) (N := N_u_law_own_bag) T.F_u_law_own_bag sc_u_law_own_bag rfl rfl fun cdv A outer s H hr hgd => by
    have u0 := hu0 hr
    have u1 := hu1 hr
    have u64 := hu64 hr
    have u65 := hu65 hr
    exact (vss_cons (vs_setLc (i := 1) (own := [("cell", 3)]) takeF_ok takeF_ok (fun _ _ _ q => q) rfl rfl sc_u_law_own_bag.nd rfl rfl (sw_true rfl rfl rfl (by decide +kernel)) (vi_items (ve_slH (ve_var (pv 0)) (ve_const pe_int fun _ => .int _))) (blkOk_by (own := [("cell", 3)]) (N := N_u_law_own_bag) (sc := defScope (top 15)) (by decide +kernel)) (fun _ _ _ _ _ => (vg_name (i := 3) rfl sc_u_law_own_bag.nd rfl (Or.inl rfl))) (fun _ _ _ _ _ => vts_nil) (fun _ _ _ _ _ => (ve_callB call_abs fAbs_ok (by rfl) T.z_abs (by first | exact PySem.boot_abs | exact PyProof.Rows.boot_abs | rfl) (va_cons (ve_var (pv 3)) va_nil))))
    (vss_cons (vs_set (i := 2) takeF_ok rfl sc_u_law_own_bag.nd rfl (Or.inl rfl) (ve_bin op_addA fAdd_ok (ve_const pe_int fun _ => .int _) (ve_callB call_lenA fLen_ok (by rfl) T.z_len (by first | exact PySem.boot_len | exact PyProof.Rows.boot_len | rfl) (va_cons (ve_var (pv 1)) va_nil))))
    (vss_cons (vs_for PassesOwn.never rfl (vi_items (ve_var (pv 1))) (vg_name (i := 3) rfl sc_u_law_own_bag.nd rfl (Or.inl rfl))
      (vss_one (vs_set (i := 2) takeF_ok rfl sc_u_law_own_bag.nd rfl (Or.inl rfl) (ve_bin op_mod fMod_ok (ve_bin op_addA fAdd_ok (ve_bin op_addA fAdd_ok (ve_bin op_mulA fMul_ok (ve_var (pv 2)) (ve_const pe_int fun _ => .int _)) (ve_bin op_mod fMod_ok (ve_var (pv 3)) (ve_const pe_int fun _ => .int _))) (ve_const pe_int fun _ => .int _)) (ve_const pe_int fun _ => .int _)))))
    (vss_one (vs_ret takeM_ok (ve_lst (va_cons (ve_lstRev rfl rfl T.z_list rfl T.z_reversed (ve_var (pv 1))) (va_cons (ve_const pe_int fun _ => .int _) (va_cons (ve_var (pv 2)) va_nil)))))))))
abbrev N_u_law_draw : List Str := ["bag", "below", "cell", "found"]
theorem sc_u_law_draw : FnScope N_u_law_draw ["bag", "below"] (defScope (top 16)) := ⟨rfl, rfl, rfl, by decide +kernel, rfl, by decide +kernel, by decide +kernel⟩
theorem ok_u_law_draw (T : Txt K mg) : FnG P w K mg base 1 T.a_u_law_draw T.d_u_law_draw ["bag", "below"] (spF K 2 F_u_law_draw) :=
  fn_def (k := 0) (io := [true, false]) (n := 4) (m := m_u_law_draw) (N := N_u_law_draw) T.F_u_law_draw sc_u_law_draw rfl rfl fun cdv A outer s H hr hgd => by
    have u0 := hu0 hr
    have u1 := hu1 hr
    have u64 := hu64 hr
    have u65 := hu65 hr
    exact (vss_cons (vs_while PassesOwn.never (vt_w (vw_and (vt_cmp (op_eqA u64) fEq_ok (ve_ix (ix_any u1) fIx_ok (ve_var (pv 0)) (ve_const pe_int fun _ => .int _) (fun _ _ => rfl)) (ve_const pe_int fun _ => .int _) (nomark _)) (vw_and1 (vt_neAt (pv 0) pe_int (fun _ _ => rfl) u64))))
      (vss_cons (vs_set (i := 2) takeF_ok rfl sc_u_law_draw.nd rfl (Or.inl rfl) (ve_popAt (pv 0) pe_int (fun _ _ => rfl)))
    (vss_one (vs_store u1 (ve_ifE (vt_cmp (r0 op_gt) fGt_ok (ve_var (pv 2)) (ve_bin op_pow fPow_ok (ve_const pe_int fun _ => .int _) (ve_const pe_int fun _ => .int _)) (nomark _)) (ve_var (pv 2)) (ve_const pe_int fun _ => .int _)) (pv 0) (ve_const pe_int fun _ => .int _)))))
    (vss_cons (vs_if (vt_cmp (r0 op_gt) fGt_ok (ve_ix (ix_any u1) fIx_ok (ve_var (pv 0)) (ve_const pe_int fun _ => .int _) (fun _ _ => rfl)) (ve_const pe_int fun _ => .int _) (nomark _))
      (vss_cons (vs_set (i := 3) takeF_ok rfl sc_u_law_draw.nd rfl (Or.inl rfl) (ve_bin op_mod fMod_ok (ve_ix (ix_any u1) fIx_ok (ve_var (pv 0)) (ve_const pe_int fun _ => .int _) (fun _ _ => rfl)) (ve_var (pv 1))))
    (vss_cons (vs_store u1 (ve_bin op_fdivW fDiv_ok (ve_ix (ix_any u1) fIx_ok (ve_var (pv 0)) (ve_const pe_int fun _ => .int _) (fun _ _ => rfl)) (ve_var (pv 1))) (pv 0) (ve_const pe_int fun _ => .int _))
    (vss_one (vs_ret takeM_ok (ve_var (pv 3))))))
      vss_nil)
    (vss_cons (vs_store u1 (ve_bin op_mod fMod_ok (ve_bin op_addA fAdd_ok (ve_bin op_mulA fMul_ok (ve_ix (ix_any u1) fIx_ok (ve_var (pv 0)) (ve_const pe_int fun _ => .int _) (fun _ _ => rfl)) (ve_const pe_int fun _ => .int _)) (ve_const pe_int fun _ => .int _)) (ve_const pe_int fun _ => .int _)) (pv 0) (ve_const pe_int fun _ => .int _))
    (vss_one (vs_ret takeM_ok (ve_bin op_mod fMod_ok (ve_bin op_fdivW fDiv_ok (ve_bin op_mod fMod_ok (ve_bin op_mulA fMul_ok (ve_ix (ix_any u1) fIx_ok (ve_var (pv 0)) (ve_const pe_int fun _ => .int _) (fun _ _ => rfl)) (ve_ix (ix_any u1) fIx_ok (ve_var (pv 0)) (ve_const pe_int fun _ => .int _) (fun _ _ => rfl))) (ve_const pe_int fun _ => .int _)) (ve_const pe_int fun _ => .int _)) (ve_var (pv 1))))))))
abbrev N_u_law_pick : List Str := ["bag", "some"]
theorem sc_u_law_pick : FnScope N_u_law_pick ["bag", "some"] (defScope (top 17)) := ⟨rfl, rfl, rfl, by decide +kernel, rfl, by decide +kernel, by decide +kernel⟩
theorem ok_u_law_pick (T : Txt K mg) : FnG P w K mg base 2 T.a_u_law_pick T.d_u_law_pick ["bag", "some"] (spF K 2 F_u_law_pick) :=
  fn_def (k := 1) (io := [true, false]) (n := 2) (m := m_u_law_pick) (N := N_u_law_pick) T.F_u_law_pick sc_u_law_pick rfl rfl fun cdv A outer s H hr hgd => by
    have u0 := hu0 hr
    have u1 := hu1 hr
    have u64 := hu64 hr
    have u65 := hu65 hr
    exact (vss_one (vs_ret takeM_ok (ve_ix (ix_any u1) fIx_ok (ve_var (pv 1)) (ve_call (k := 1) (io := [true, false]) (F := F_u_law_draw) (ok_u_law_draw T) (hr.mono (by decide)) hgd rfl T.m_u_law_draw T.F_u_law_draw.kp T.b_u_law_draw (va_cons (ve_var (pv 0)) (va_cons (ve_callB call_lenA fLen_ok (by rfl) T.z_len (by first | exact PySem.boot_len | exact PyProof.Rows.boot_len | rfl) (va_cons (ve_var (pv 1)) va_nil)) va_nil))) (fun _ _ => rfl))))
abbrev N_u_law_is : List Str := ["told", "due"]
theorem sc_u_law_is : FnScope N_u_law_is ["told", "due"] (defScope (top 19)) := ⟨rfl, rfl, rfl, by decide +kernel, rfl, by decide +kernel, by decide +kernel⟩
theorem ok_u_law_is (T : Txt K mg) : FnG P w K mg base 1 T.a_u_law_is T.d_u_law_is ["told", "due"] (spF K 2 F_u_law_is) :=
  fn_def (k := 0) (io := [false, false]) (n := 2) (m := m_u_law_is) (N := N_u_law_is) T.F_u_law_is sc_u_law_is rfl rfl fun cdv A outer s H hr hgd => by
    have u0 := hu0 hr
    have u1 := hu1 hr
    have u64 := hu64 hr
    have u65 := hu65 hr
    exact (vss_one (vs_ret takeM_ok (ve_and (ve_cmp (op_eqA u64) fEq_ok (ve_callB (call_reprA hgd u65) fRepr_ok (by rfl) T.z_repr (by first | exact PySem.boot_repr | exact PyProof.Rows.boot_repr | rfl) (va_cons (ve_var (pv 0)) va_nil)) (ve_callB (call_reprA hgd u65) fRepr_ok (by rfl) T.z_repr (by first | exact PySem.boot_repr | exact PyProof.Rows.boot_repr | rfl) (va_cons (ve_var (pv 1)) va_nil)) (nomark _)) (ve_one (ve_cmp (op_eqA u64) fEq_ok (ve_var (pv 0)) (ve_var (pv 1)) (nomark _))))))
abbrev N_u_law_going : List Str := ["n", "way", "taken", "barred", "pairs", "x", "fresh", "both", "number", "a"]
theorem sc_u_law_going : FnScope N_u_law_going ["n", "way"] (defScope (top 20)) := ⟨rfl, rfl, rfl, by decide +kernel, rfl, by decide +kernel, by decide +kernel⟩
theorem ok_u_law_going (T : Txt K mg) : FnG P w K mg base 1 T.a_u_law_going T.d_u_law_going ["n", "way"] (spF K 2 F_u_law_going) :=
  fn_def (k := 0) (io := [false, false]) (n := 10) (m := m_u_law_going) (N := N_u_law_going) T.F_u_law_going sc_u_law_going rfl rfl fun cdv A outer s H hr hgd => by
    have u0 := hu0 hr
    have u1 := hu1 hr
    have u64 := hu64 hr
    have u65 := hu65 hr
    exact (vss_cons (vs_parL3 (i := 2) (j := 3) (l := 4) (tks_cons takeV_ok (tks_cons takeV_ok (tks_cons takeF_ok tks_nil))) (ios_cons rfl (ios_cons rfl (ios_cons rfl ios_nil))) rfl sc_u_law_going.nd rfl rfl rfl (by decide) (by decide) (by decide) rfl rfl rfl (va_cons (ve_lst va_nil) (va_cons ve_dic (va_cons (ve_lst va_nil) va_nil))) rfl)
    (vss_cons (vs_for PassesOwn.never rfl (vi_range2 rfl T.z_range (va_cons (ve_ifE (vt_cmp (op_eqA u64) fEq_ok (ve_var (pv 1)) (ve_const pe_str fun _ => .str _) (nomark _)) (ve_const pe_int fun _ => .int _) (ve_const pe_int fun _ => .int _)) (va_cons (ve_const pe_int fun _ => .int _) va_nil))) (vg_name (i := 5) rfl sc_u_law_going.nd rfl (Or.inr rfl))
      (vss_cons (vs_if (vt_cmp (op_eqA u64) fEq_ok (ve_callB call_lenA fLen_ok (by rfl) T.z_len (by first | exact PySem.boot_len | exact PyProof.Rows.boot_len | rfl) (va_cons (ve_var (pv 2)) va_nil)) (ve_var (pv 0)) (nomark _))
      (vss_one vs_brk)
      vss_nil)
    (vss_cons (vs_if (vt_cmp (op_inA u65) fIn_ok (ve_var (pv 5)) (ve_var (pv 3)) (by with_unfolding_all rfl))
      (vss_one vs_cnt)
      vss_nil)
    (vss_cons (vs_if (vt_cmp (op_eqA u64) fEq_ok (ve_var (pv 1)) (ve_const pe_str fun _ => .str _) (nomark _))
      (vss_one (vs_setLc (i := 6) (own := [("a", 9)]) takeF_ok takeF_ok (fun _ _ _ q => lock_seq q) rfl rfl sc_u_law_going.nd rfl rfl (sw_true rfl rfl rfl (by decide +kernel)) (vi_items (ve_var (pv 2))) (blkOk_by (own := [("a", 9)]) (N := N_u_law_going) (sc := defScope (top 20)) (by decide +kernel)) (fun _ _ _ _ _ => (vg_name (i := 9) rfl sc_u_law_going.nd rfl (Or.inl rfl))) (fun _ _ _ _ _ => vts_nil) (fun _ _ _ _ _ => (ve_bin (r0 op_sub) fSub_ok (ve_bin op_mulA fMul_ok (ve_const pe_int fun _ => .int _) (ve_var (pv 5))) (ve_var (pv 9))))))
      (vss_one (vs_if (vt_cmp (op_inA u65) fIn_ok (ve_var (pv 1)) (ve_lst (va_cons (ve_const pe_str fun _ => .str _) (va_cons (ve_const pe_str fun _ => .str _) va_nil))) (by with_unfolding_all rfl))
      (vss_one (vs_set (i := 6) takeF_ok rfl sc_u_law_going.nd rfl (Or.inl rfl) (ve_bin op_addA fAdd_ok (ve_lock (j := 2) (ve_lc (own := [("a", 9)]) takeF_ok rfl sc_u_law_going.nd (vi_items (ve_var (pv 2))) (blkOk_by (own := [("a", 9)]) (N := N_u_law_going) (sc := defScope (top 20)) (by decide +kernel)) (fun _ _ _ _ _ => (vg_name (i := 9) rfl sc_u_law_going.nd rfl (Or.inl rfl))) (fun _ _ _ _ _ => vts_nil) (fun _ _ _ _ _ => (ve_bin op_addA fAdd_ok (ve_var (pv 9)) (ve_var (pv 5)))))) (ve_ifE (vt_cmp (op_eqA u64) fEq_ok (ve_var (pv 1)) (ve_const pe_str fun _ => .str _) (nomark _)) (ve_lst (va_cons (ve_bin op_mulA fMul_ok (ve_const pe_int fun _ => .int _) (ve_var (pv 5))) va_nil)) (ve_lst va_nil)))))
      (vss_cons (vs_setLc (i := 6) (own := [("a", 9)]) takeF_ok takeF_ok (fun _ _ _ q => lock_seq q) rfl rfl sc_u_law_going.nd rfl rfl (sw_true rfl rfl rfl (by decide +kernel)) (vi_items (ve_var (pv 2))) (blkOk_by (own := [("a", 9)]) (N := N_u_law_going) (sc := defScope (top 20)) (by decide +kernel)) (fun _ _ _ _ _ => (vg_name (i := 9) rfl sc_u_law_going.nd rfl (Or.inl rfl))) (fun _ _ _ _ _ => vts_nil) (fun _ _ _ _ _ => (ve_bin (r0 op_xor) fXor_ok (ve_var (pv 9)) (ve_var (pv 5)))))
    (vss_cons (vs_for PassesOwn.never rfl (vi_items (ve_ifE (vt_cmp (op_eqA u64) fEq_ok (ve_var (pv 1)) (ve_const pe_str fun _ => .str _) (nomark _)) (ve_var (pv 4)) (ve_lst va_nil))) (vg_name (i := 7) rfl sc_u_law_going.nd rfl (Or.inl rfl))
      (vss_one (vs_store u1 (ve_const pe_bl fun _ => .bl _) (pv 3) (ve_bin (r0 op_xor) fXor_ok (ve_var (pv 7)) (ve_var (pv 5))))))
    (vss_one (vs_set (i := 4) takeF_ok rfl sc_u_law_going.nd rfl (Or.inl rfl) (ve_bin op_addA fAdd_ok (ve_var (pv 4)) (ve_var (pv 6))))))))))
    (vss_cons (vs_for PassesOwn.never rfl (vi_items (ve_var (pv 6))) (vg_name (i := 8) rfl sc_u_law_going.nd rfl (Or.inl rfl))
      (vss_one (vs_store u1 (ve_const pe_bl fun _ => .bl _) (pv 3) (ve_var (pv 8)))))
    (vss_one (vs_expr (ve_meth PySem.F.plainAttrs_list PySem.F.slot_list_append PySem.F.type_list_append mt_append lAppend_ok (pv 2) (va_cons (ve_var (pv 5)) va_nil)))))))))
    (vss_one (vs_ret takeM_ok (ve_callTy call_tuple_of fTuple_ok (by rfl) T.z_tuple (by first | exact PySem.boot_tuple | exact PyProof.Rows.boot_tuple | rfl) (va_cons (ve_var (pv 2)) va_nil))))))
abbrev N_steps_free : List Str := ["n", "k"]
theorem sc_steps_free : FnScope N_steps_free ["n"] (defScope (top 10)) := ⟨rfl, rfl, rfl, by decide +kernel, rfl, by decide +kernel, by decide +kernel⟩
theorem ok_steps_free (T : Txt K mg) : FnG P w K mg base 3 T.a_steps_free T.d_steps_free ["n"] (spF K 1 F_steps_free) :=
  fn_def (k := 2) (io := [false]) (n := 2) (m := m_steps_free) (N := N_steps_free) T.F_steps_free sc_steps_free rfl rfl fun cdv A outer s H hr hgd => by
    have u0 := hu0 hr
    have u1 := hu1 hr
    have u64 := hu64 hr
    have u65 := hu65 hr
    exact (vss_one (vs_ret takeM_ok (ve_callTy call_tuple_of fTuple_ok (by rfl) T.z_tuple (by first | exact PySem.boot_tuple | exact PyProof.Rows.boot_tuple | rfl) (va_cons (ve_lc (own := [("k", 1)]) takeF_ok rfl sc_steps_free.nd (vi_range1 rfl T.z_range (va_cons (ve_var (pv 0)) va_nil)) (blkOk_by (own := [("k", 1)]) (N := N_steps_free) (sc := defScope (top 10)) (by decide +kernel)) (fun _ _ _ _ _ => (vg_name (i := 1) rfl sc_steps_free.nd rfl (Or.inl rfl))) (fun _ _ _ _ _ => vts_nil) (fun _ _ _ _ _ => (ve_call (k := 2) (io := [false]) (F := F_steps_item) (ok_steps_item T) (hr.mono (by decide)) hgd rfl T.m_steps_item T.F_steps_item.kp T.b_steps_item (va_cons (ve_var (pv 1)) va_nil)))) va_nil))))
abbrev N_sums_free : List Str := ["n", "is_twice", "k"]
theorem sc_sums_free : FnScope N_sums_free ["n", "is_twice"] (defScope (top 11)) := ⟨rfl, rfl, rfl, by decide +kernel, rfl, by decide +kernel, by decide +kernel⟩
theorem ok_sums_free (T : Txt K mg) : FnG P w K mg base 1 T.a_sums_free T.d_sums_free ["n", "is_twice"] (spF K 2 F_sums_free) :=
  fn_def (k := 0) (io := [false, false]) (n := 3) (m := m_sums_free) (N := N_sums_free) T.F_sums_free sc_sums_free rfl rfl fun cdv A outer s H hr hgd => by
    have u0 := hu0 hr
    have u1 := hu1 hr
    have u64 := hu64 hr
    have u65 := hu65 hr
    exact (vss_cons (vs_if (vt_truth (ve_var (pv 1)))
      (vss_one (vs_ret takeM_ok (ve_callTy call_tuple_of fTuple_ok (by rfl) T.z_tuple (by first | exact PySem.boot_tuple | exact PyProof.Rows.boot_tuple | rfl) (va_cons (ve_lc (own := [("k", 2)]) takeF_ok rfl sc_sums_free.nd (vi_range1 rfl T.z_range (va_cons (ve_var (pv 0)) va_nil)) (blkOk_by (own := [("k", 2)]) (N := N_sums_free) (sc := defScope (top 11)) (by decide +kernel)) (fun _ _ _ _ _ => (vg_name (i := 2) rfl sc_sums_free.nd rfl (Or.inl rfl))) (fun _ _ _ _ _ => vts_nil) (fun _ _ _ _ _ => (ve_bin op_addA fAdd_ok (ve_bin op_mulA fMul_ok (ve_const pe_int fun _ => .int _) (ve_var (pv 2))) (ve_const pe_int fun _ => .int _)))) va_nil))))
      vss_nil)
    (vss_one (vs_ret takeM_ok (ve_callTy call_tuple_of fTuple_ok (by rfl) T.z_tuple (by first | exact PySem.boot_tuple | exact PyProof.Rows.boot_tuple | rfl) (va_cons (ve_bin op_addA fAdd_ok (ve_slH (ve_lst (va_cons (ve_const pe_int fun _ => .int _) (va_cons (ve_const pe_int fun _ => .int _) va_nil))) (ve_var (pv 0))) (ve_lc (own := [("k", 2)]) takeF_ok rfl sc_sums_free.nd (vi_range2 rfl T.z_range (va_cons (ve_const pe_int fun _ => .int _) (va_cons (ve_bin (r0 op_sub) fSub_ok (ve_var (pv 0)) (ve_const pe_int fun _ => .int _)) va_nil))) (blkOk_by (own := [("k", 2)]) (N := N_sums_free) (sc := defScope (top 11)) (by decide +kernel)) (fun _ _ _ _ _ => (vg_name (i := 2) rfl sc_sums_free.nd rfl (Or.inl rfl))) (fun _ _ _ _ _ => vts_nil) (fun _ _ _ _ _ => (ve_bin op_addA fAdd_ok (ve_bin op_mulA fMul_ok (ve_const pe_int fun _ => .int _) (ve_var (pv 2))) (ve_const pe_int fun _ => .int _))))) va_nil)))))
abbrev N_carries_free : List Str := ["n", "found", "x"]
theorem sc_carries_free : FnScope N_carries_free ["n"] (defScope (top 12)) := ⟨rfl, rfl, rfl, by decide +kernel, rfl, by decide +kernel, by decide +kernel⟩
theorem ok_carries_free (T : Txt K mg) : FnG P w K mg base 2 T.a_carries_free T.d_carries_free ["n"] (spF K 1 F_carries_free) :=
  fn_def (k := 1) (io := [false]) (n := 3) (m := m_carries_free) (N := N_carries_free) T.F_carries_free sc_carries_free rfl rfl fun cdv A outer s H hr hgd => by
    have u0 := hu0 hr
    have u1 := hu1 hr
    have u64 := hu64 hr
    have u65 := hu65 hr
    exact (vss_cons (vs_parL2 (i := 1) (j := 2) (tks_cons takeV_ok (tks_cons takeF_ok tks_nil)) (ios_cons rfl (ios_cons rfl ios_nil)) rfl sc_carries_free.nd rfl rfl (by decide) rfl rfl (va_cons (ve_lst va_nil) (va_cons (ve_const pe_int fun _ => .int _) va_nil)) rfl)
    (vss_cons (vs_while PassesOwn.never (vt_cmp (op_ltA u0) fLt_ok (ve_callB call_lenA fLen_ok (by rfl) T.z_len (by first | exact PySem.boot_len | exact PyProof.Rows.boot_len | rfl) (va_cons (ve_var (pv 1)) va_nil)) (ve_var (pv 0)) (nomark _))
      (vss_cons (vs_if (vt_cmp (op_eqA u64) fEq_ok (ve_bin op_mod fMod_ok (ve_callB (cr_sum rfl) fSum_ok (by rfl) T.z_sum (by first | exact PySem.boot_sum | exact PyProof.Rows.boot_sum | rfl) (va_cons (ve_call (k := 1) (io := [false]) (F := F_figures_row) (ok_figures_row T) (hr.mono (by decide)) hgd rfl T.m_figures_row T.F_figures_row.kp T.b_figures_row (va_cons (ve_var (pv 2)) va_nil)) va_nil)) (ve_const pe_int fun _ => .int _)) (ve_const pe_int fun _ => .int _) (nomark _))
      (vss_one (vs_expr (ve_meth PySem.F.plainAttrs_list PySem.F.slot_list_append PySem.F.type_list_append mt_append lAppend_ok (pv 1) (va_cons (ve_var (pv 2)) va_nil))))
      vss_nil)
    (vss_one (vs_set (i := 2) takeF_ok rfl sc_carries_free.nd rfl (Or.inl rfl) (ve_bin op_addA fAdd_ok (ve_var (pv 2)) (ve_const pe_int fun _ => .int _))))))
    (vss_one (vs_ret takeM_ok (ve_callTy call_tuple_of fTuple_ok (by rfl) T.z_tuple (by first | exact PySem.boot_tuple | exact PyProof.Rows.boot_tuple | rfl) (va_cons (ve_var (pv 1)) va_nil))))))
abbrev N_fours_free : List Str := ["n", "found", "pairs", "barred", "x", "pair", "own"]
theorem sc_fours_free : FnScope N_fours_free ["n"] (defScope (top 13)) := ⟨rfl, rfl, rfl, by decide +kernel, rfl, by decide +kernel, by decide +kernel⟩
theorem ok_fours_free (T : Txt K mg) : FnG P w K mg base 1 T.a_fours_free T.d_fours_free ["n"] (spF K 1 F_fours_free) :=
  fn_def (k := 0) (io := [false]) (n := 7) (m := m_fours_free) (N := N_fours_free) T.F_fours_free sc_fours_free rfl rfl fun cdv A outer s H hr hgd => by
    have u0 := hu0 hr
    have u1 := hu1 hr
    have u64 := hu64 hr
    have u65 := hu65 hr
    exact (vss_cons (vs_parL (is := [1, 2, 3, 4]) (tks_cons takeV_ok (tks_cons takeV_ok (tks_cons takeV_ok (tks_cons takeF_ok tks_nil)))) (ios_cons rfl (ios_cons rfl (ios_cons rfl (ios_cons rfl ios_nil)))) rfl (va_cons (ve_lst va_nil) (va_cons ve_dic (va_cons ve_dic (va_cons (ve_const pe_int fun _ => .int _) va_nil)))) (vgo_cons (i := 1) sc_fours_free.nd rfl (Or.inl rfl) (vgo_cons (i := 2) sc_fours_free.nd rfl (Or.inl rfl) (vgo_cons (i := 3) sc_fours_free.nd rfl (Or.inl rfl) (vgo_cons (i := 4) sc_fours_free.nd rfl (Or.inl rfl) vgo_nil)))))
    (vss_cons (vs_while PassesOwn.never (vt_cmp (op_ltA u0) fLt_ok (ve_callB call_lenA fLen_ok (by rfl) T.z_len (by first | exact PySem.boot_len | exact PyProof.Rows.boot_len | rfl) (va_cons (ve_var (pv 1)) va_nil)) (ve_var (pv 0)) (nomark _))
      (vss_cons (vs_set (i := 4) takeF_ok rfl sc_fours_free.nd rfl (Or.inl rfl) (ve_bin op_addA fAdd_ok (ve_var (pv 4)) (ve_const pe_int fun _ => .int _)))
    (vss_one (vs_if (vt_cmp (op_notInA u65) fNotIn_ok (ve_var (pv 4)) (ve_var (pv 3)) (by with_unfolding_all rfl))
      (vss_cons (vs_for PassesOwn.never rfl (vi_items (ve_callTy (call_listA rfl) fListA_ok (by rfl) T.z_list (by first | exact PySem.boot_list | exact PyProof.Rows.boot_list | rfl) (va_cons (ve_var (pv 2)) va_nil))) (vg_name (i := 5) rfl sc_fours_free.nd rfl (Or.inl rfl))
      (vss_one (vs_store u1 (ve_const pe_bl fun _ => .bl _) (pv 3) (ve_bin (r0 op_xor) fXor_ok (ve_var (pv 5)) (ve_var (pv 4))))))
    (vss_cons (vs_lock (j := 1) (vs_for PassesOwn.never rfl (vi_items (ve_var (pv 1))) (vg_name (i := 6) rfl sc_fours_free.nd rfl (Or.inl rfl))
      (vss_cons (vs_store u1 (ve_const pe_bl fun _ => .bl _) (pv 2) (ve_bin (r0 op_xor) fXor_ok (ve_var (pv 6)) (ve_var (pv 4))))
    (vss_one (vs_store u1 (ve_const pe_bl fun _ => .bl _) (pv 3) (ve_bin (r0 op_xor) fXor_ok (ve_var (pv 6)) (ve_var (pv 4))))))))
    (vss_cons (vs_store u1 (ve_const pe_bl fun _ => .bl _) (pv 3) (ve_var (pv 4)))
    (vss_one (vs_expr (ve_meth PySem.F.plainAttrs_list PySem.F.slot_list_append PySem.F.type_list_append mt_append lAppend_ok (pv 1) (va_cons (ve_var (pv 4)) va_nil)))))))
      vss_nil))))
    (vss_one (vs_ret takeM_ok (ve_callTy call_tuple_of fTuple_ok (by rfl) T.z_tuple (by first | exact PySem.boot_tuple | exact PyProof.Rows.boot_tuple | rfl) (va_cons (ve_var (pv 1)) va_nil))))))
abbrev N_u_law_row : List Str := ["way", "n", "is_named", "is_twice"]
theorem sc_u_law_row : FnScope N_u_law_row ["way", "n", "is_named"] (defScope (top 21)) := ⟨rfl, rfl, rfl, by decide +kernel, rfl, by decide +kernel, by decide +kernel⟩
theorem ok_u_law_row (T : Txt K mg) : FnG P w K mg base 4 T.a_u_law_row T.d_u_law_row ["way", "n", "is_named"] (spF K 3 F_u_law_row) :=
  fn_def (k := 3) (io := [false, false, false]) (n := 4) (m := m_u_law_row) (N := N_u_law_row) T.F_u_law_row sc_u_law_row rfl rfl fun cdv A outer s H hr hgd => by
    have u0 := hu0 hr
    have u1 := hu1 hr
    have u64 := hu64 hr
    have u65 := hu65 hr
    exact (vss_cons (vs_if (vt_cmp (op_eqA u64) fEq_ok (ve_var (pv 0)) (ve_const pe_str fun _ => .str _) (nomark _))
      (vss_one (vs_ret takeM_ok (ve_ifE (vt_truth (ve_var (pv 2))) (ve_callK0 (k := 3) (io := [false]) (F := F_steps_free) (ks := ["n"]) (ok_steps_free T) (hr.mono (by decide)) hgd rfl T.m_steps_free T.F_steps_free.kp T.k_steps_free_0_n (vk_cons (ve_var (pv 1)) vk_nil)) (ve_call (k := 3) (io := [false]) (F := F_steps_free) (ok_steps_free T) (hr.mono (by decide)) hgd rfl T.m_steps_free T.F_steps_free.kp T.b_steps_free (va_cons (ve_var (pv 1)) va_nil)))))
      vss_nil)
    (vss_cons (vs_if (vt_cmp (op_eqA u64) fEq_ok (ve_var (pv 0)) (ve_const pe_str fun _ => .str _) (nomark _))
      (vss_one (vs_ret takeM_ok (ve_ifE (vt_truth (ve_var (pv 2))) (ve_callK0 (k := 2) (io := [false]) (F := F_carries_free) (ks := ["n"]) (ok_carries_free T) (hr.mono (by decide)) hgd rfl T.m_carries_free T.F_carries_free.kp T.k_carries_free_0_n (vk_cons (ve_var (pv 1)) vk_nil)) (ve_call (k := 2) (io := [false]) (F := F_carries_free) (ok_carries_free T) (hr.mono (by decide)) hgd rfl T.m_carries_free T.F_carries_free.kp T.b_carries_free (va_cons (ve_var (pv 1)) va_nil)))))
      vss_nil)
    (vss_cons (vs_if (vt_cmp (op_eqA u64) fEq_ok (ve_var (pv 0)) (ve_const pe_str fun _ => .str _) (nomark _))
      (vss_one (vs_ret takeM_ok (ve_ifE (vt_truth (ve_var (pv 2))) (ve_callK0 (k := 1) (io := [false]) (F := F_fours_free) (ks := ["n"]) (ok_fours_free T) (hr.mono (by decide)) hgd rfl T.m_fours_free T.F_fours_free.kp T.k_fours_free_0_n (vk_cons (ve_var (pv 1)) vk_nil)) (ve_call (k := 1) (io := [false]) (F := F_fours_free) (ok_fours_free T) (hr.mono (by decide)) hgd rfl T.m_fours_free T.F_fours_free.kp T.b_fours_free (va_cons (ve_var (pv 1)) va_nil)))))
      vss_nil)
    (vss_cons (vs_set (i := 3) takeF_ok rfl sc_u_law_row.nd rfl (Or.inl rfl) (ve_cmp (op_eqA u64) fEq_ok (ve_var (pv 0)) (ve_const pe_str fun _ => .str _) (nomark _)))
    (vss_one (vs_ret takeM_ok (ve_ifE (vt_truth (ve_var (pv 2))) (ve_callK0 (k := 1) (io := [false, false]) (F := F_sums_free) (ks := ["n", "is_twice"]) (ok_sums_free T) (hr.mono (by decide)) hgd rfl T.m_sums_free T.F_sums_free.kp T.k_sums_free_0_n_is_twice (vk_cons (ve_var (pv 1)) (vk_cons (ve_var (pv 3)) vk_nil))) (ve_call (k := 1) (io := [false, false]) (F := F_sums_free) (ok_sums_free T) (hr.mono (by decide)) hgd rfl T.m_sums_free T.F_sums_free.kp T.b_sums_free (va_cons (ve_var (pv 1)) (va_cons (ve_var (pv 3)) va_nil))))))))))
abbrev N_u_law_own_item : List Str := ["k", "found", "power", "turn"]
theorem sc_u_law_own_item : FnScope N_u_law_own_item ["k"] (defScope (top 22)) := ⟨rfl, rfl, rfl, by decide +kernel, rfl, by decide +kernel, by decide +kernel⟩
theorem ok_u_law_own_item (T : Txt K mg) : FnG P w K mg base 1 T.a_u_law_own_item T.d_u_law_own_item ["k"] (spF K 1 F_u_law_own_item) :=
  fn_def (k := 0) (io := [false]) (n := 4) (m := m_u_law_own_item) (N := N_u_law_own_item) T.F_u_law_own_item sc_u_law_own_item rfl rfl fun cdv A outer s H hr hgd => by
    have u0 := hu0 hr
    have u1 := hu1 hr
    have u64 := hu64 hr
    have u65 := hu65 hr
    exact (vss_cons (vs_asg (ve_tup (va_cons (ve_const pe_int fun _ => .int _) (va_cons (ve_const pe_int fun _ => .int _) va_nil))) (vg_tup (n := 2) rfl (vgs_cons (vg_name (i := 1) rfl sc_u_law_own_item.nd rfl (Or.inl rfl)) (vgs_cons (vg_name (i := 2) rfl sc_u_law_own_item.nd rfl (Or.inl rfl)) vgs_nil))))
    (vss_cons (vs_for PassesOwn.never rfl (vi_range1 rfl T.z_range (va_cons (ve_const pe_int fun _ => .int _) va_nil)) (vg_name (i := 3) rfl sc_u_law_own_item.nd rfl (Or.inl rfl))
      (vss_cons (vs_set (i := 1) takeF_ok rfl sc_u_law_own_item.nd rfl (Or.inl rfl) (ve_bin op_addA fAdd_ok (ve_var (pv 1)) (ve_bin op_mulA fMul_ok (ve_var (pv 2)) (ve_bin op_mod fMod_ok (ve_var (pv 0)) (ve_const pe_int fun _ => .int _)))))
    (vss_one (vs_par (i := 0) (j := 2) takeF_ok rfl rfl rfl sc_u_law_own_item.nd rfl rfl (by decide) rfl rfl (va_cons (ve_bin op_fdivW fDiv_ok (ve_var (pv 0)) (ve_const pe_int fun _ => .int _)) (va_cons (ve_bin op_mulA fMul_ok (ve_var (pv 2)) (ve_const pe_int fun _ => .int _)) va_nil)) rfl))))
    (vss_one (vs_ret takeM_ok (ve_var (pv 1))))))
abbrev N_u_law_own_place : List Str := ["x", "found", "power", "turn"]
theorem sc_u_law_own_place : FnScope N_u_law_own_place ["x"] (defScope (top 23)) := ⟨rfl, rfl, rfl, by decide +kernel, rfl, by decide +kernel, by decide +kernel⟩
theorem ok_u_law_own_place (T : Txt K mg) : FnG P w K mg base 1 T.a_u_law_own_place T.d_u_law_own_place ["x"] (spF K 1 F_u_law_own_place) :=
  fn_def (k := 0) (io := [false]) (n := 4) (m := m_u_law_own_place) (N := N_u_law_own_place) T.F_u_law_own_place sc_u_law_own_place rfl rfl fun cdv A outer s H hr hgd => by
    have u0 := hu0 hr
    have u1 := hu1 hr
    have u64 := hu64 hr
    have u65 := hu65 hr
    exact (vss_cons (vs_asg (ve_tup (va_cons (ve_const pe_int fun _ => .int _) (va_cons (ve_const pe_int fun _ => .int _) va_nil))) (vg_tup (n := 2) rfl (vgs_cons (vg_name (i := 1) rfl sc_u_law_own_place.nd rfl (Or.inl rfl)) (vgs_cons (vg_name (i := 2) rfl sc_u_law_own_place.nd rfl (Or.inl rfl)) vgs_nil))))
    (vss_cons (vs_for PassesOwn.never rfl (vi_range1 rfl T.z_range (va_cons (ve_const pe_int fun _ => .int _) va_nil)) (vg_name (i := 3) rfl sc_u_law_own_place.nd rfl (Or.inl rfl))
      (vss_cons (vs_if (vt_cmp (op_eqA u64) fEq_ok (ve_bin op_mod fMod_ok (ve_var (pv 0)) (ve_const pe_int fun _ => .int _)) (ve_const pe_int fun _ => .int _) (nomark _))
      (vss_one (vs_ret takeM_ok (ve_const pe_non fun _ => .non)))
      vss_nil)
    (vss_cons (vs_set (i := 1) takeF_ok rfl sc_u_law_own_place.nd rfl (Or.inl rfl) (ve_bin op_addA fAdd_ok (ve_var (pv 1)) (ve_bin op_mulA fMul_ok (ve_var (pv 2)) (ve_bin op_mod fMod_ok (ve_var (pv 0)) (ve_const pe_int fun _ => .int _)))))
    (vss_one (vs_par (i := 0) (j := 2) takeF_ok rfl rfl rfl sc_u_law_own_place.nd rfl rfl (by decide) rfl rfl (va_cons (ve_bin op_fdivW fDiv_ok (ve_var (pv 0)) (ve_const pe_int fun _ => .int _)) (va_cons (ve_bin op_mulA fMul_ok (ve_var (pv 2)) (ve_const pe_int fun _ => .int _)) va_nil)) rfl)))))
    (vss_one (vs_ret takeM_ok (ve_var (pv 1))))))
abbrev N_u_law_great : List Str := ["bag", "below", "found", "turn"]
theorem sc_u_law_great : FnScope N_u_law_great ["bag", "below"] (defScope (top 18)) := ⟨rfl, rfl, rfl, by decide +kernel, rfl, by decide +kernel, by decide +kernel⟩
theorem ok_u_law_great (T : Txt K mg) : FnG P w K mg base 2 T.a_u_law_great T.d_u_law_great ["bag", "below"] (spF K 2 F_u_law_great) :=
  fn_def (k := 1) (io := [true, false]) (n := 4) (m := m_u_law_great) (N := N_u_law_great) T.F_u_law_great sc_u_law_great rfl rfl fun cdv A outer s H hr hgd => by
    have u0 := hu0 hr
    have u1 := hu1 hr
    have u64 := hu64 hr
    have u65 := hu65 hr
    exact (vss_cons (vs_set (i := 2) takeF_ok rfl sc_u_law_great.nd rfl (Or.inl rfl) (ve_const pe_int fun _ => .int _))
    (vss_cons (vs_for PassesOwn.never rfl (vi_range1 rfl T.z_range (va_cons (ve_const pe_int fun _ => .int _) va_nil)) (vg_name (i := 3) rfl sc_u_law_great.nd rfl (Or.inl rfl))
      (vss_one (vs_set (i := 2) takeF_ok rfl sc_u_law_great.nd rfl (Or.inl rfl) (ve_bin op_addA fAdd_ok (ve_bin op_mulA fMul_ok (ve_var (pv 2)) (ve_bin op_pow fPow_ok (ve_const pe_int fun _ => .int _) (ve_const pe_int fun _ => .int _))) (ve_call (k := 1) (io := [true, false]) (F := F_u_law_draw) (ok_u_law_draw T) (hr.mono (by decide)) hgd rfl T.m_u_law_draw T.F_u_law_draw.kp T.b_u_law_draw (va_cons (ve_var (pv 0)) (va_cons (ve_bin op_pow fPow_ok (ve_const pe_int fun _ => .int _) (ve_const pe_int fun _ => .int _)) va_nil)))))))
    (vss_one (vs_ret takeM_ok (ve_bin op_mod fMod_ok (ve_var (pv 2)) (ve_var (pv 1)))))))
abbrev N_u_law_some_k : List Str := ["bag", "way", "found", "turn"]
theorem sc_u_law_some_k : FnScope N_u_law_some_k ["bag"] (defScope (top 24)) := ⟨rfl, rfl, rfl, by decide +kernel, rfl, by decide +kernel, by decide +kernel⟩
theorem ok_u_law_some_k (T : Txt K mg) : FnG P w K mg base 3 T.a_u_law_some_k T.d_u_law_some_k ["bag"] (spF K 1 F_u_law_some_k) :=
  fn_def (k := 2) (io := [true]) (n := 4) (m := m_u_law_some_k) (N := N_u_law_some_k) T.F_u_law_some_k sc_u_law_some_k rfl rfl fun cdv A outer s H hr hgd => by
    have u0 := hu0 hr
    have u1 := hu1 hr
    have u64 := hu64 hr
    have u65 := hu65 hr
    exact (vss_cons (vs_set (i := 1) takeF_ok rfl sc_u_law_some_k.nd rfl (Or.inl rfl) (ve_call (k := 1) (io := [true, false]) (F := F_u_law_draw) (ok_u_law_draw T) (hr.mono (by decide)) hgd rfl T.m_u_law_draw T.F_u_law_draw.kp T.b_u_law_draw (va_cons (ve_var (pv 0)) (va_cons (ve_const pe_int fun _ => .int _) va_nil))))
    (vss_cons (vs_if (vt_cmp (op_eqA u64) fEq_ok (ve_var (pv 1)) (ve_const pe_int fun _ => .int _) (nomark _))
      (vss_one (vs_ret takeM_ok (ve_call (k := 1) (io := [true, false]) (F := F_u_law_draw) (ok_u_law_draw T) (hr.mono (by decide)) hgd rfl T.m_u_law_draw T.F_u_law_draw.kp T.b_u_law_draw (va_cons (ve_var (pv 0)) (va_cons (ve_const pe_int fun _ => .int _) va_nil)))))
      vss_nil)
    (vss_cons (vs_if (vt_cmp (op_eqA u64) fEq_ok (ve_var (pv 1)) (ve_const pe_int fun _ => .int _) (nomark _))
      (vss_one (vs_ret takeM_ok (ve_call (k := 2) (io := [true, false]) (F := F_u_law_pick) (ok_u_law_pick T) (hr.mono (by decide)) hgd rfl T.m_u_law_pick T.F_u_law_pick.kp T.b_u_law_pick (va_cons (ve_var (pv 0)) (va_cons (ve_lst (va_cons (ve_const pe_int fun _ => .int _) (va_cons (ve_const pe_int fun _ => .int _) (va_cons (ve_bin op_pow fPow_ok (ve_const pe_int fun _ => .int _) (ve_const pe_int fun _ => .int _)) (va_cons (ve_bin (r0 op_sub) fSub_ok (ve_bin op_pow fPow_ok (ve_const pe_int fun _ => .int _) (ve_const pe_int fun _ => .int _)) (ve_const pe_int fun _ => .int _)) va_nil))))) va_nil)))))
      vss_nil)
    (vss_cons (vs_if (vt_cmp (op_inA u65) fIn_ok (ve_var (pv 1)) (ve_lst (va_cons (ve_const pe_int fun _ => .int _) (va_cons (ve_const pe_int fun _ => .int _) va_nil))) (by with_unfolding_all rfl))
      (vss_cons (vs_set (i := 2) takeF_ok rfl sc_u_law_some_k.nd rfl (Or.inl rfl) (ve_const pe_int fun _ => .int _))
    (vss_cons (vs_for PassesOwn.never rfl (vi_range1 rfl T.z_range (va_cons (ve_call (k := 1) (io := [true, false]) (F := F_u_law_draw) (ok_u_law_draw T) (hr.mono (by decide)) hgd rfl T.m_u_law_draw T.F_u_law_draw.kp T.b_u_law_draw (va_cons (ve_var (pv 0)) (va_cons (ve_const pe_int fun _ => .int _) va_nil))) va_nil)) (vg_name (i := 3) rfl sc_u_law_some_k.nd rfl (Or.inl rfl))
      (vss_one (vs_set (i := 2) takeF_ok rfl sc_u_law_some_k.nd rfl (Or.inl rfl) (ve_bin op_mulA fMul_ok (ve_var (pv 2)) (ve_const pe_int fun _ => .int _)))))
    (vss_one (vs_ret takeM_ok (ve_bin (r0 op_sub) fSub_ok (ve_var (pv 2)) (ve_bin (r0 op_sub) fSub_ok (ve_var (pv 1)) (ve_const pe_int fun _ => .int _)))))))
      vss_nil)
    (vss_one (vs_ret takeM_ok (ve_call (k := 2) (io := [true, false]) (F := F_u_law_great) (ok_u_law_great T) (hr.mono (by decide)) hgd rfl T.m_u_law_great T.F_u_law_great.kp T.b_u_law_great (va_cons (ve_var (pv 0)) (va_cons (ve_bin op_addA fAdd_ok (ve_bin op_pow fPow_ok (ve_const pe_int fun _ => .int _) (ve_const pe_int fun _ => .int _)) (ve_const pe_int fun _ => .int _)) va_nil)))))))))
abbrev N_u_law_some_x : List Str := ["bag", "way", "found", "power", "turn"]
theorem sc_u_law_some_x : FnScope N_u_law_some_x ["bag"] (defScope (top 25)) := ⟨rfl, rfl, rfl, by decide +kernel, rfl, by decide +kernel, by decide +kernel⟩
theorem ok_u_law_some_x (T : Txt K mg) : FnG P w K mg base 3 T.a_u_law_some_x T.d_u_law_some_x ["bag"] (spF K 1 F_u_law_some_x) :=
  fn_def (k := 2) (io := [true]) (n := 5) (m := m_u_law_some_x) (N := N_u_law_some_x) T.F_u_law_some_x sc_u_law_some_x rfl rfl fun cdv A outer s H hr hgd => by
    have u0 := hu0 hr
    have u1 := hu1 hr
    have u64 := hu64 hr
    have u65 := hu65 hr
    exact (vss_cons (vs_set (i := 1) takeF_ok rfl sc_u_law_some_x.nd rfl (Or.inl rfl) (ve_call (k := 1) (io := [true, false]) (F := F_u_law_draw) (ok_u_law_draw T) (hr.mono (by decide)) hgd rfl T.m_u_law_draw T.F_u_law_draw.kp T.b_u_law_draw (va_cons (ve_var (pv 0)) (va_cons (ve_const pe_int fun _ => .int _) va_nil))))
    (vss_cons (vs_if (vt_cmp (op_eqA u64) fEq_ok (ve_var (pv 1)) (ve_const pe_int fun _ => .int _) (nomark _))
      (vss_one (vs_ret takeM_ok (ve_call (k := 1) (io := [true, false]) (F := F_u_law_draw) (ok_u_law_draw T) (hr.mono (by decide)) hgd rfl T.m_u_law_draw T.F_u_law_draw.kp T.b_u_law_draw (va_cons (ve_var (pv 0)) (va_cons (ve_const pe_int fun _ => .int _) va_nil)))))
      vss_nil)
    (vss_cons (vs_if (vt_cmp (op_eqA u64) fEq_ok (ve_var (pv 1)) (ve_const pe_int fun _ => .int _) (nomark _))
      (vss_one (vs_ret takeM_ok (ve_bin (r0 op_sub) fSub_ok (ve_bin op_pow fPow_ok (ve_const pe_int fun _ => .int _) (ve_const pe_int fun _ => .int _)) (ve_call (k := 2) (io := [true, false]) (F := F_u_law_pick) (ok_u_law_pick T) (hr.mono (by decide)) hgd rfl T.m_u_law_pick T.F_u_law_pick.kp T.b_u_law_pick (va_cons (ve_var (pv 0)) (va_cons (ve_lst (va_cons (ve_const pe_int fun _ => .int _) (va_cons (ve_const pe_int fun _ => .int _) (va_cons (ve_call (k := 1) (io := [true, false]) (F := F_u_law_draw) (ok_u_law_draw T) (hr.mono (by decide)) hgd rfl T.m_u_law_draw T.F_u_law_draw.kp T.b_u_law_draw (va_cons (ve_var (pv 0)) (va_cons (ve_const pe_int fun _ => .int _) va_nil))) va_nil)))) va_nil))))))
      vss_nil)
    (vss_cons (vs_if (vt_cmp (op_eqA u64) fEq_ok (ve_var (pv 1)) (ve_const pe_int fun _ => .int _) (nomark _))
      (vss_one (vs_ret takeM_ok (ve_call (k := 2) (io := [true, false]) (F := F_u_law_great) (ok_u_law_great T) (hr.mono (by decide)) hgd rfl T.m_u_law_great T.F_u_law_great.kp T.b_u_law_great (va_cons (ve_var (pv 0)) (va_cons (ve_bin op_addA fAdd_ok (ve_bin op_pow fPow_ok (ve_const pe_int fun _ => .int _) (ve_const pe_int fun _ => .int _)) (ve_const pe_int fun _ => .int _)) va_nil)))))
      vss_nil)
    (vss_cons (vs_set (i := 2) takeF_ok rfl sc_u_law_some_x.nd rfl (Or.inl rfl) (ve_call (k := 1) (io := [false]) (F := F_u_law_own_item) (ok_u_law_own_item T) (hr.mono (by decide)) hgd rfl T.m_u_law_own_item T.F_u_law_own_item.kp T.b_u_law_own_item (va_cons (ve_call (k := 2) (io := [true, false]) (F := F_u_law_great) (ok_u_law_great T) (hr.mono (by decide)) hgd rfl T.m_u_law_great T.F_u_law_great.kp T.b_u_law_great (va_cons (ve_var (pv 0)) (va_cons (ve_bin op_pow fPow_ok (ve_const pe_int fun _ => .int _) (ve_const pe_int fun _ => .int _)) va_nil))) va_nil)))
    (vss_cons (vs_if (vt_cmp (op_ltA u0) fLt_ok (ve_var (pv 1)) (ve_const pe_int fun _ => .int _) (nomark _))
      (vss_one (vs_ret takeM_ok (ve_var (pv 2))))
      vss_nil)
    (vss_cons (vs_if (vt_cmp (op_eqA u64) fEq_ok (ve_var (pv 1)) (ve_const pe_int fun _ => .int _) (nomark _))
      (vss_one (vs_ret takeM_ok (ve_callB call_abs fAbs_ok (by rfl) T.z_abs (by first | exact PySem.boot_abs | exact PyProof.Rows.boot_abs | rfl) (va_cons (ve_bin op_addA fAdd_ok (ve_var (pv 2)) (ve_call (k := 2) (io := [true, false]) (F := F_u_law_pick) (ok_u_law_pick T) (hr.mono (by decide)) hgd rfl T.m_u_law_pick T.F_u_law_pick.kp T.b_u_law_pick (va_cons (ve_var (pv 0)) (va_cons (ve_lst (va_cons (ve_un un_neg fNeg_ok (ve_const pe_int fun _ => .int _)) (va_cons (ve_const pe_int fun _ => .int _) va_nil))) va_nil)))) va_nil))))
      vss_nil)
    (vss_cons (vs_set (i := 3) takeF_ok rfl sc_u_law_some_x.nd rfl (Or.inl rfl) (ve_const pe_int fun _ => .int _))
    (vss_cons (vs_for PassesOwn.never rfl (vi_range1 rfl T.z_range (va_cons (ve_call (k := 1) (io := [true, false]) (F := F_u_law_draw) (ok_u_law_draw T) (hr.mono (by decide)) hgd rfl T.m_u_law_draw T.F_u_law_draw.kp T.b_u_law_draw (va_cons (ve_var (pv 0)) (va_cons (ve_const pe_int fun _ => .int _) va_nil))) va_nil)) (vg_name (i := 4) rfl sc_u_law_some_x.nd rfl (Or.inl rfl))
      (vss_one (vs_set (i := 3) takeF_ok rfl sc_u_law_some_x.nd rfl (Or.inl rfl) (ve_bin op_mulA fMul_ok (ve_var (pv 3)) (ve_const pe_int fun _ => .int _)))))
    (vss_one (vs_ret takeM_ok (ve_bin op_addA fAdd_ok (ve_var (pv 2)) (ve_bin op_mulA fMul_ok (ve_var (pv 3)) (ve_bin (r0 op_sub) fSub_ok (ve_const pe_int fun _ => .int _) (ve_bin op_mod fMod_ok (ve_bin op_fdivW fDiv_ok (ve_var (pv 2)) (ve_var (pv 3))) (ve_const pe_int fun _ => .int _))))))))))))))))
abbrev N_numbers_summed : List Str := ["a", "b"]
theorem sc_numbers_summed : FnScope N_numbers_summed ["a", "b"] (defScope (top 1)) := ⟨rfl, rfl, rfl, by decide +kernel, rfl, by decide +kernel, by decide +kernel⟩
theorem ok_numbers_summed (T : Txt K mg) : FnG P w K mg base 1 T.a_numbers_summed T.d_numbers_summed ["a", "b"] (spF K 2 F_numbers_summed) :=
  fn_def (k := 0) (io := [false, false]) (n := 2) (m := m_numbers_summed) (N := N_numbers_summed) T.F_numbers_summed sc_numbers_summed rfl rfl fun cdv A outer s H hr hgd => by
    have u0 := hu0 hr
    have u1 := hu1 hr
    have u64 := hu64 hr
    have u65 := hu65 hr
    exact (vss_one (vs_ret takeM_ok (ve_bin (r0 op_xor) fXor_ok (ve_var (pv 0)) (ve_var (pv 1)))))
abbrev N_summed_all : List Str := ["numbers", "found", "number"]
theorem sc_summed_all : FnScope N_summed_all ["numbers"] (defScope (top 2)) := ⟨rfl, rfl, rfl, by decide +kernel, rfl, by decide +kernel, by decide +kernel⟩
theorem ok_summed_all (T : Txt K mg) : FnG P w K mg base 1 T.a_summed_all T.d_summed_all ["numbers"] (spF K 1 F_summed_all) :=
  fn_def (k := 0) (io := [false]) (n := 3) (m := m_summed_all) (N := N_summed_all) T.F_summed_all sc_summed_all rfl rfl fun cdv A outer s H hr hgd => by
    have u0 := hu0 hr
    have u1 := hu1 hr
    have u64 := hu64 hr
    have u65 := hu65 hr
    exact (vss_cons (vs_set (i := 1) takeF_ok rfl sc_summed_all.nd rfl (Or.inl rfl) (ve_const pe_int fun _ => .int _))
    (vss_cons (vs_for PassesOwn.never rfl (vi_items (ve_var (pv 0))) (vg_name (i := 2) rfl sc_summed_all.nd rfl (Or.inl rfl))
      (vss_one (vs_set (i := 1) takeF_ok rfl sc_summed_all.nd rfl (Or.inl rfl) (ve_bin (r0 op_xor) fXor_ok (ve_var (pv 1)) (ve_var (pv 2))))))
    (vss_one (vs_ret takeM_ok (ve_var (pv 1))))))
abbrev N_bits_of : List Str := ["a", "place"]
theorem sc_bits_of : FnScope N_bits_of ["a"] (defScope (top 3)) := ⟨rfl, rfl, rfl, by decide +kernel, rfl, by decide +kernel, by decide +kernel⟩
theorem ok_bits_of (T : Txt K mg) : FnG P w K mg base 1 T.a_bits_of T.d_bits_of ["a"] (spF K 1 F_bits_of) :=
  fn_def (k := 0) (io := [false]) (n := 2) (m := m_bits_of) (N := N_bits_of) T.F_bits_of sc_bits_of rfl rfl fun cdv A outer s H hr hgd => by
    have u0 := hu0 hr
    have u1 := hu1 hr
    have u64 := hu64 hr
    have u65 := hu65 hr
    exact (vss_one (vs_ret takeM_ok (ve_callTy call_tuple_of fTuple_ok (by rfl) T.z_tuple (by first | exact PySem.boot_tuple | exact PyProof.Rows.boot_tuple | rfl) (va_cons (ve_lc (own := [("place", 1)]) takeF_ok rfl sc_bits_of.nd (vi_range1 rfl T.z_range (va_cons (ve_bits (ve_var (pv 0))) va_nil)) (blkOk_by (own := [("place", 1)]) (N := N_bits_of) (sc := defScope (top 3)) (by decide +kernel)) (fun _ _ _ _ _ => (vg_name (i := 1) rfl sc_bits_of.nd rfl (Or.inl rfl))) (fun _ _ _ _ _ => (vts_one (vt_cmp (op_eqA u64) fEq_ok (ve_bin (r0 op_and) fAnd_ok (ve_bin op_shr fShr_ok (ve_var (pv 0)) (ve_var (pv 1))) (ve_const pe_int fun _ => .int _)) (ve_const pe_int fun _ => .int _) (nomark _)))) (fun _ _ _ _ _ => (ve_var (pv 1)))) va_nil))))
abbrev N_number_of_bits : List Str := ["bits", "place"]
theorem sc_number_of_bits : FnScope N_number_of_bits ["bits"] (defScope (top 4)) := ⟨rfl, rfl, rfl, by decide +kernel, rfl, by decide +kernel, by decide +kernel⟩
theorem ok_number_of_bits (T : Txt K mg) : FnG P w K mg base 1 T.a_number_of_bits T.d_number_of_bits ["bits"] (spF K 1 F_number_of_bits) :=
  fn_def (k := 0) (io := [false]) (n := 2) (m := m_number_of_bits) (N := N_number_of_bits) T.F_number_of_bits sc_number_of_bits rfl rfl fun cdv A outer s H hr hgd => by
    have u0 := hu0 hr
    have u1 := hu1 hr
    have u64 := hu64 hr
    have u65 := hu65 hr
    exact (vss_one (vs_ret takeM_ok (ve_callB (cr_sum rfl) fSum_ok (by rfl) T.z_sum (by first | exact PySem.boot_sum | exact PyProof.Rows.boot_sum | rfl) (va_cons (ve_lc (own := [("place", 1)]) takeF_ok rfl sc_number_of_bits.nd (vi_items (ve_var (pv 0))) (blkOk_by (own := [("place", 1)]) (N := N_number_of_bits) (sc := defScope (top 4)) (by decide +kernel)) (fun _ _ _ _ _ => (vg_name (i := 1) rfl sc_number_of_bits.nd rfl (Or.inl rfl))) (fun _ _ _ _ _ => vts_nil) (fun _ _ _ _ _ => (ve_bin op_shlW fShl_ok (ve_const pe_int fun _ => .int _) (ve_var (pv 1))))) va_nil))))
abbrev N_least_unbarred : List Str := ["numbers", "barred", "found", "number"]
theorem sc_least_unbarred : FnScope N_least_unbarred ["numbers"] (defScope (top 5)) := ⟨rfl, rfl, rfl, by decide +kernel, rfl, by decide +kernel, by decide +kernel⟩
theorem ok_least_unbarred (T : Txt K mg) : FnG P w K mg base 1 T.a_least_unbarred T.d_least_unbarred ["numbers"] (spF K 1 F_least_unbarred) :=
  fn_def (k := 0) (io := [false]) (n := 4) (m := m_least_unbarred) (N := N_least_unbarred) T.F_least_unbarred sc_least_unbarred rfl rfl fun cdv A outer s H hr hgd => by
    have u0 := hu0 hr
    have u1 := hu1 hr
    have u64 := hu64 hr
    have u65 := hu65 hr
    exact (vss_cons (vs_setDc (i := 1) (own := [("number", 3)]) takeV_ok rfl rfl sc_least_unbarred.nd rfl rfl (sw_trueD rfl rfl rfl (by decide +kernel)) (vi_items (ve_var (pv 0))) (blkOk_by (own := [("number", 3)]) (N := N_least_unbarred) (sc := defScope (top 5)) (by decide +kernel)) (fun _ _ _ _ _ => (vg_name (i := 3) rfl sc_least_unbarred.nd rfl (Or.inl rfl))) (fun _ _ _ _ _ => vts_nil) (fun _ _ _ _ _ => (ve_var (pv 3))) (fun _ _ _ _ _ => (ve_const pe_bl fun _ => .bl _)))
    (vss_cons (vs_set (i := 2) takeF_ok rfl sc_least_unbarred.nd rfl (Or.inl rfl) (ve_const pe_int fun _ => .int _))
    (vss_cons (vs_while PassesOwn.never (vt_cmp (op_inA u65) fIn_ok (ve_var (pv 2)) (ve_var (pv 1)) (by with_unfolding_all rfl))
      (vss_one (vs_set (i := 2) takeF_ok rfl sc_least_unbarred.nd rfl (Or.inl rfl) (ve_bin op_addA fAdd_ok (ve_var (pv 2)) (ve_const pe_int fun _ => .int _)))))
    (vss_one (vs_ret takeM_ok (ve_var (pv 2)))))))
abbrev N_u_law_sums : List Str := ["taken", "is_three", "found", "pairs", "k", "x", "fresh", "a", "both"]
theorem sc_u_law_sums : FnScope N_u_law_sums ["taken", "is_three"] (defScope (top 26)) := ⟨rfl, rfl, rfl, by decide +kernel, rfl, by decide +kernel, by decide +kernel⟩
theorem ok_u_law_sums (T : Txt K mg) : FnG P w K mg base 1 T.a_u_law_sums T.d_u_law_sums ["taken", "is_three"] (spF K 2 F_u_law_sums) :=
  fn_def (k := 0) (io := [false, false]) (n := 9) (m := m_u_law_sums) (N := N_u_law_sums) T.F_u_law_sums sc_u_law_sums rfl rfl fun cdv A outer s H hr hgd => by
    have u0 := hu0 hr
    have u1 := hu1 hr
    have u64 := hu64 hr
    have u65 := hu65 hr
    exact (vss_cons (vs_par (i := 2) (j := 3) takeF_ok rfl rfl rfl sc_u_law_sums.nd rfl rfl (by decide) rfl rfl (va_cons (ve_lst va_nil) (va_cons (ve_lst va_nil) va_nil)) rfl)
    (vss_cons (vs_for PassesOwn.never rfl (vi_enumA rfl T.z_enumerate (ve_var (pv 0))) (vg_tup (n := 2) rfl (vgs_cons (vg_name (i := 4) rfl sc_u_law_sums.nd rfl (Or.inl rfl)) (vgs_cons (vg_name (i := 5) rfl sc_u_law_sums.nd rfl (Or.inr rfl)) vgs_nil)))
      (vss_cons (vs_setLc (i := 6) (own := [("a", 7)]) takeF_ok takeF_ok (fun _ _ _ q => q) rfl rfl sc_u_law_sums.nd rfl rfl (sw_true rfl rfl rfl (by decide +kernel)) (vi_items (ve_slH (ve_var (pv 0)) (ve_var (pv 4)))) (blkOk_by (own := [("a", 7)]) (N := N_u_law_sums) (sc := defScope (top 26)) (by decide +kernel)) (fun _ _ _ _ _ => (vg_name (i := 7) rfl sc_u_law_sums.nd rfl (Or.inl rfl))) (fun _ _ _ _ _ => vts_nil) (fun _ _ _ _ _ => (ve_bin (r0 op_xor) fXor_ok (ve_var (pv 7)) (ve_var (pv 5)))))
    (vss_cons (vs_set (i := 2) takeF_ok rfl sc_u_law_sums.nd rfl (Or.inl rfl) (ve_bin op_addA fAdd_ok (ve_bin op_addA fAdd_ok (ve_var (pv 2)) (ve_var (pv 6))) (ve_ifE (vt_truth (ve_var (pv 1))) (ve_lc (own := [("both", 8)]) takeF_ok rfl sc_u_law_sums.nd (vi_items (ve_var (pv 3))) (blkOk_by (own := [("both", 8)]) (N := N_u_law_sums) (sc := defScope (top 26)) (by decide +kernel)) (fun _ _ _ _ _ => (vg_name (i := 8) rfl sc_u_law_sums.nd rfl (Or.inl rfl))) (fun _ _ _ _ _ => vts_nil) (fun _ _ _ _ _ => (ve_bin (r0 op_xor) fXor_ok (ve_var (pv 8)) (ve_var (pv 5))))) (ve_lst va_nil))))
    (vss_one (vs_set (i := 3) takeF_ok rfl sc_u_law_sums.nd rfl (Or.inl rfl) (ve_bin op_addA fAdd_ok (ve_var (pv 3)) (ve_var (pv 6))))))))
    (vss_one (vs_ret takeM_ok (ve_var (pv 2))))))
abbrev N_u_law_are_sums_right : List Str := ["bag", "carries", "fours", "i", "a", "b", "places", "at", "many", "some", "due", "x", "told", "m", "few", "barred", "more", "place"]
theorem sc_u_law_are_sums_right : FnScope N_u_law_are_sums_right ["bag", "carries", "fours"] (defScope (top 27)) := ⟨rfl, rfl, rfl, by decide +kernel, rfl, by decide +kernel, by decide +kernel⟩
theorem ok_u_law_are_sums_right (T : Txt K mg) : FnG P w K mg base 2 T.a_u_law_are_sums_right T.d_u_law_are_sums_right ["bag", "carries", "fours"] (spF K 3 F_u_law_are_sums_right) :=
  fn_def (k := 1) (io := [true, false, false]) (n := 18) (m := m_u_law_are_sums_right) (N := N_u_law_are_sums_right) T.F_u_law_are_sums_right sc_u_law_are_sums_right rfl rfl fun cdv A outer s H hr hgd => by
    have u0 := hu0 hr
    have u1 := hu1 hr
    have u64 := hu64 hr
    have u65 := hu65 hr
    exact (vss_cons (vs_set (i := 3) takeF_ok rfl sc_u_law_are_sums_right.nd rfl (Or.inl rfl) (ve_call (k := 1) (io := [true, false]) (F := F_u_law_draw) (ok_u_law_draw T) (hr.mono (by decide)) hgd rfl T.m_u_law_draw T.F_u_law_draw.kp T.b_u_law_draw (va_cons (ve_var (pv 0)) (va_cons (ve_callB call_lenA fLen_ok (by rfl) T.z_len (by first | exact PySem.boot_len | exact PyProof.Rows.boot_len | rfl) (va_cons (ve_var (pv 1)) va_nil)) va_nil))))
    (vss_cons (vs_asg (ve_tup (va_cons (ve_ix (ix_any u1) fIx_ok (ve_var (pv 1)) (ve_var (pv 3)) (fun _ _ => rfl)) (va_cons (ve_ix (ix_any u1) fIx_ok (ve_var (pv 1)) (ve_bin op_mod fMod_ok (ve_bin op_addA fAdd_ok (ve_bin op_addA fAdd_ok (ve_var (pv 3)) (ve_const pe_int fun _ => .int _)) (ve_call (k := 1) (io := [true, false]) (F := F_u_law_draw) (ok_u_law_draw T) (hr.mono (by decide)) hgd rfl T.m_u_law_draw T.F_u_law_draw.kp T.b_u_law_draw (va_cons (ve_var (pv 0)) (va_cons (ve_bin (r0 op_sub) fSub_ok (ve_callB call_lenA fLen_ok (by rfl) T.z_len (by first | exact PySem.boot_len | exact PyProof.Rows.boot_len | rfl) (va_cons (ve_var (pv 1)) va_nil)) (ve_const pe_int fun _ => .int _)) va_nil)))) (ve_callB call_lenA fLen_ok (by rfl) T.z_len (by first | exact PySem.boot_len | exact PyProof.Rows.boot_len | rfl) (va_cons (ve_var (pv 1)) va_nil))) (fun _ _ => rfl)) va_nil))) (vg_tup (n := 2) rfl (vgs_cons (vg_name (i := 4) rfl sc_u_law_are_sums_right.nd rfl (Or.inr rfl)) (vgs_cons (vg_name (i := 5) rfl sc_u_law_are_sums_right.nd rfl (Or.inl rfl)) vgs_nil))))
    (vss_cons (vs_set (i := 6) takeF_ok rfl sc_u_law_are_sums_right.nd rfl (Or.inl rfl) (ve_callTy call_tuple_of fTuple_ok (by rfl) T.z_tuple (by first | exact PySem.boot_tuple | exact PyProof.Rows.boot_tuple | rfl) (va_cons (ve_lc (own := [("place", 17)]) takeF_ok rfl sc_u_law_are_sums_right.nd (vi_range1 rfl T.z_range (va_cons (ve_const pe_int fun _ => .int _) va_nil)) (blkOk_by (own := [("place", 17)]) (N := N_u_law_are_sums_right) (sc := defScope (top 27)) (by decide +kernel)) (fun _ _ _ _ _ => (vg_name (i := 17) rfl sc_u_law_are_sums_right.nd rfl (Or.inl rfl))) (fun _ _ _ _ _ => (vts_one (vt_cmp (op_eqA u64) fEq_ok (ve_bin op_mod fMod_ok (ve_bin op_fdivW fDiv_ok (ve_var (pv 4)) (ve_bin op_shlW fShl_ok (ve_const pe_int fun _ => .int _) (ve_var (pv 17)))) (ve_const pe_int fun _ => .int _)) (ve_const pe_int fun _ => .int _) (nomark _)))) (fun _ _ _ _ _ => (ve_var (pv 17)))) va_nil)))
    (vss_cons (vs_par (i := 7) (j := 8) takeF_ok rfl rfl rfl sc_u_law_are_sums_right.nd rfl rfl (by decide) rfl rfl (va_cons (ve_call (k := 1) (io := [true, false]) (F := F_u_law_draw) (ok_u_law_draw T) (hr.mono (by decide)) hgd rfl T.m_u_law_draw T.F_u_law_draw.kp T.b_u_law_draw (va_cons (ve_var (pv 0)) (va_cons (ve_bin (r0 op_sub) fSub_ok (ve_callB call_lenA fLen_ok (by rfl) T.z_len (by first | exact PySem.boot_len | exact PyProof.Rows.boot_len | rfl) (va_cons (ve_var (pv 2)) va_nil)) (ve_const pe_int fun _ => .int _)) va_nil))) (va_cons (ve_bin op_addA fAdd_ok (ve_const pe_int fun _ => .int _) (ve_call (k := 1) (io := [true, false]) (F := F_u_law_draw) (ok_u_law_draw T) (hr.mono (by decide)) hgd rfl T.m_u_law_draw T.F_u_law_draw.kp T.b_u_law_draw (va_cons (ve_var (pv 0)) (va_cons (ve_const pe_int fun _ => .int _) va_nil)))) va_nil)) rfl)
    (vss_cons (vs_par (i := 9) (j := 10) takeF_ok rfl rfl rfl sc_u_law_are_sums_right.nd rfl rfl (by decide) rfl rfl (va_cons (ve_sl2 (ve_var (pv 2)) (ve_var (pv 7)) (ve_bin op_addA fAdd_ok (ve_var (pv 7)) (ve_var (pv 8)))) (va_cons (ve_const pe_int fun _ => .int _) va_nil)) rfl)
    (vss_cons (vs_for PassesOwn.never rfl (vi_items (ve_var (pv 9))) (vg_name (i := 11) rfl sc_u_law_are_sums_right.nd rfl (Or.inl rfl))
      (vss_one (vs_set (i := 10) takeF_ok rfl sc_u_law_are_sums_right.nd rfl (Or.inl rfl) (ve_bin (r0 op_xor) fXor_ok (ve_var (pv 10)) (ve_var (pv 11))))))
    (vss_cons (vs_set (i := 12) takeF_ok rfl sc_u_law_are_sums_right.nd rfl (Or.inl rfl) (ve_lst (va_cons (ve_call (k := 1) (io := [false, false]) (F := F_numbers_summed) (ok_numbers_summed T) (hr.mono (by decide)) hgd rfl T.m_numbers_summed T.F_numbers_summed.kp T.b_numbers_summed (va_cons (ve_var (pv 4)) (va_cons (ve_var (pv 5)) va_nil))) (va_cons (ve_callK0 (k := 1) (io := [false, false]) (F := F_numbers_summed) (ks := ["a", "b"]) (ok_numbers_summed T) (hr.mono (by decide)) hgd rfl T.m_numbers_summed T.F_numbers_summed.kp T.k_numbers_summed_0_a_b (vk_cons (ve_var (pv 5)) (vk_cons (ve_var (pv 4)) vk_nil))) (va_cons (ve_call (k := 1) (io := [false, false]) (F := F_numbers_summed) (ok_numbers_summed T) (hr.mono (by decide)) hgd rfl T.m_numbers_summed T.F_numbers_summed.kp T.b_numbers_summed (va_cons (ve_var (pv 4)) (va_cons (ve_var (pv 4)) va_nil))) (va_cons (ve_call (k := 1) (io := [false]) (F := F_summed_all) (ok_summed_all T) (hr.mono (by decide)) hgd rfl T.m_summed_all T.F_summed_all.kp T.b_summed_all (va_cons (ve_var (pv 9)) va_nil)) va_nil))))))
    (vss_cons (vs_set (i := 12) takeF_ok rfl sc_u_law_are_sums_right.nd rfl (Or.inl rfl) (ve_bin op_addA fAdd_ok (ve_var (pv 12)) (ve_lst (va_cons (ve_callK0 (k := 1) (io := [false]) (F := F_summed_all) (ks := ["numbers"]) (ok_summed_all T) (hr.mono (by decide)) hgd rfl T.m_summed_all T.F_summed_all.kp T.k_summed_all_0_numbers (vk_cons (ve_bin op_addA fAdd_ok (ve_var (pv 9)) (ve_slH (ve_var (pv 9)) (ve_const pe_int fun _ => .int _))) vk_nil)) (va_cons (ve_call (k := 1) (io := [false]) (F := F_bits_of) (ok_bits_of T) (hr.mono (by decide)) hgd rfl T.m_bits_of T.F_bits_of.kp T.b_bits_of (va_cons (ve_var (pv 4)) va_nil)) (va_cons (ve_callK0 (k := 1) (io := [false]) (F := F_bits_of) (ks := ["a"]) (ok_bits_of T) (hr.mono (by decide)) hgd rfl T.m_bits_of T.F_bits_of.kp T.k_bits_of_0_a (vk_cons (ve_var (pv 4)) vk_nil)) (va_cons (ve_call (k := 1) (io := [false]) (F := F_number_of_bits) (ok_number_of_bits T) (hr.mono (by decide)) hgd rfl T.m_number_of_bits T.F_number_of_bits.kp T.b_number_of_bits (va_cons (ve_var (pv 6)) va_nil)) va_nil)))))))
    (vss_cons (vs_if (vt_not (vt_truth (ve_call (k := 1) (io := [false, false]) (F := F_u_law_is) (ok_u_law_is T) (hr.mono (by decide)) hgd rfl T.m_u_law_is T.F_u_law_is.kp T.b_u_law_is (va_cons (ve_var (pv 12)) (va_cons (ve_lst (va_cons (ve_bin (r0 op_xor) fXor_ok (ve_var (pv 4)) (ve_var (pv 5))) (va_cons (ve_bin (r0 op_xor) fXor_ok (ve_var (pv 4)) (ve_var (pv 5))) (va_cons (ve_const pe_int fun _ => .int _) (va_cons (ve_var (pv 10)) (va_cons (ve_bin (r0 op_xor) fXor_ok (ve_var (pv 10)) (ve_ix (ix_any u1) fIx_ok (ve_var (pv 9)) (ve_const pe_int fun _ => .int _) (fun _ _ => rfl))) (va_cons (ve_var (pv 6)) (va_cons (ve_var (pv 6)) (va_cons (ve_var (pv 4)) va_nil))))))))) va_nil)))))
      (vss_one (vs_ret takeM_ok (ve_const pe_bl fun _ => .bl _)))
      vss_nil)
    (vss_cons (vs_par (i := 13) (j := 14) takeF_ok rfl rfl rfl sc_u_law_are_sums_right.nd rfl rfl (by decide) rfl rfl (va_cons (ve_call (k := 1) (io := [true, false]) (F := F_u_law_draw) (ok_u_law_draw T) (hr.mono (by decide)) hgd rfl T.m_u_law_draw T.F_u_law_draw.kp T.b_u_law_draw (va_cons (ve_var (pv 0)) (va_cons (ve_callB call_lenA fLen_ok (by rfl) T.z_len (by first | exact PySem.boot_len | exact PyProof.Rows.boot_len | rfl) (va_cons (ve_var (pv 1)) va_nil)) va_nil))) (va_cons (ve_call (k := 1) (io := [true, false]) (F := F_u_law_draw) (ok_u_law_draw T) (hr.mono (by decide)) hgd rfl T.m_u_law_draw T.F_u_law_draw.kp T.b_u_law_draw (va_cons (ve_var (pv 0)) (va_cons (ve_const pe_int fun _ => .int _) va_nil))) va_nil)) rfl)
    (vss_cons (vs_set (i := 15) takeF_ok rfl sc_u_law_are_sums_right.nd rfl (Or.inl rfl) (ve_bin op_addA fAdd_ok (ve_bin op_addA fAdd_ok (ve_tup (va_cons (ve_const pe_int fun _ => .int _) va_nil)) (ve_slH (ve_var (pv 1)) (ve_var (pv 13)))) (ve_callTy call_tuple_of fTuple_ok (by rfl) T.z_tuple (by first | exact PySem.boot_tuple | exact PyProof.Rows.boot_tuple | rfl) (va_cons (ve_call (k := 1) (io := [false, false]) (F := F_u_law_sums) (ok_u_law_sums T) (hr.mono (by decide)) hgd rfl T.m_u_law_sums T.F_u_law_sums.kp T.b_u_law_sums (va_cons (ve_slH (ve_var (pv 1)) (ve_var (pv 13))) (va_cons (ve_const pe_bl fun _ => .bl _) va_nil))) va_nil))))
    (vss_cons (vs_set (i := 16) takeF_ok rfl sc_u_law_are_sums_right.nd rfl (Or.inl rfl) (ve_bin op_addA fAdd_ok (ve_bin op_addA fAdd_ok (ve_tup (va_cons (ve_const pe_int fun _ => .int _) va_nil)) (ve_slH (ve_var (pv 2)) (ve_var (pv 14)))) (ve_callTy call_tuple_of fTuple_ok (by rfl) T.z_tuple (by first | exact PySem.boot_tuple | exact PyProof.Rows.boot_tuple | rfl) (va_cons (ve_call (k := 1) (io := [false, false]) (F := F_u_law_sums) (ok_u_law_sums T) (hr.mono (by decide)) hgd rfl T.m_u_law_sums T.F_u_law_sums.kp T.b_u_law_sums (va_cons (ve_slH (ve_var (pv 2)) (ve_var (pv 14))) (va_cons (ve_const pe_bl fun _ => .bl _) va_nil))) va_nil))))
    (vss_one (vs_ret takeM_ok (ve_call (k := 1) (io := [false, false]) (F := F_u_law_is) (ok_u_law_is T) (hr.mono (by decide)) hgd rfl T.m_u_law_is T.F_u_law_is.kp T.b_u_law_is (va_cons (ve_lst (va_cons (ve_call (k := 1) (io := [false]) (F := F_least_unbarred) (ok_least_unbarred T) (hr.mono (by decide)) hgd rfl T.m_least_unbarred T.F_least_unbarred.kp T.b_least_unbarred (va_cons (ve_var (pv 15)) va_nil)) (va_cons (ve_callK0 (k := 1) (io := [false]) (F := F_least_unbarred) (ks := ["numbers"]) (ok_least_unbarred T) (hr.mono (by decide)) hgd rfl T.m_least_unbarred T.F_least_unbarred.kp T.k_least_unbarred_0_numbers (vk_cons (ve_var (pv 16)) vk_nil)) va_nil))) (va_cons (ve_lst (va_cons (ve_ix (ix_any u1) fIx_ok (ve_var (pv 1)) (ve_var (pv 13)) (fun _ _ => rfl)) (va_cons (ve_ix (ix_any u1) fIx_ok (ve_var (pv 2)) (ve_var (pv 14)) (fun _ _ => rfl)) va_nil))) va_nil)))))))))))))))))
abbrev N_law : List Str := ["script", "bag", "ways", "asked", "longest", "way", "n", "other", "row", "k", "due", "numbers", "dues", "told", "turn", "x"]
theorem sc_law : FnScope N_law ["script"] (defScope (top 28)) := ⟨rfl, rfl, rfl, by decide +kernel, rfl, by decide +kernel, by decide +kernel⟩
theorem ok_law (T : Txt K mg) : FnG P w K mg base 5 T.a_law T.d_law ["script"] (spF K 1 F_law) :=
  fn_def (k := 4) (io := [false]) (n := 16) (m := m_law) (N := N_law) T.F_law sc_law rfl rfl fun cdv A outer s H hr hgd => by
    have u0 := hu0 hr
    have u1 := hu1 hr
    have u64 := hu64 hr
    have u65 := hu65 hr
    exact (vss_cons (vs_set (i := 1) takeV_ok rfl sc_law.nd rfl (Or.inr rfl) (ve_call (k := 1) (io := [false]) (F := F_u_law_own_bag) (ok_u_law_own_bag T) (hr.mono (by decide)) hgd rfl T.m_u_law_own_bag T.F_u_law_own_bag.kp T.b_u_law_own_bag (va_cons (ve_var (pv 0)) va_nil)))
    (vss_cons (vs_parL3 (i := 2) (j := 3) (l := 4) (tks_cons takeF_ok (tks_cons takeV_ok (tks_cons takeV_ok tks_nil))) (ios_cons rfl (ios_cons rfl (ios_cons rfl ios_nil))) rfl sc_law.nd rfl rfl rfl (by decide) (by decide) (by decide) rfl rfl rfl (va_cons (ve_lst (va_cons (ve_const pe_str fun _ => .str _) (va_cons (ve_const pe_str fun _ => .str _) (va_cons (ve_const pe_str fun _ => .str _) (va_cons (ve_const pe_str fun _ => .str _) (va_cons (ve_const pe_str fun _ => .str _) va_nil)))))) (va_cons (ve_lst va_nil) (va_cons (ve_lst va_nil) va_nil))) rfl)
    (vss_cons (vs_for PassesOwn.never rfl (vi_items (ve_var (pv 2))) (vg_name (i := 5) rfl sc_law.nd rfl (Or.inl rfl))
      (vss_cons (vs_set (i := 6) takeF_ok rfl sc_law.nd rfl (Or.inl rfl) (ve_call (k := 2) (io := [true, false]) (F := F_u_law_pick) (ok_u_law_pick T) (hr.mono (by decide)) hgd rfl T.m_u_law_pick T.F_u_law_pick.kp T.b_u_law_pick (va_cons (ve_var (pv 1)) (va_cons (ve_lst (va_cons (ve_bin op_addA fAdd_ok (ve_const pe_int fun _ => .int _) (ve_call (k := 1) (io := [true, false]) (F := F_u_law_draw) (ok_u_law_draw T) (hr.mono (by decide)) hgd rfl T.m_u_law_draw T.F_u_law_draw.kp T.b_u_law_draw (va_cons (ve_var (pv 1)) (va_cons (ve_const pe_int fun _ => .int _) va_nil)))) (va_cons (ve_bin op_addA fAdd_ok (ve_const pe_int fun _ => .int _) (ve_call (k := 1) (io := [true, false]) (F := F_u_law_draw) (ok_u_law_draw T) (hr.mono (by decide)) hgd rfl T.m_u_law_draw T.F_u_law_draw.kp T.b_u_law_draw (va_cons (ve_var (pv 1)) (va_cons (ve_const pe_int fun _ => .int _) va_nil)))) (va_cons (ve_const pe_int fun _ => .int _) (va_cons (ve_bin op_addA fAdd_ok (ve_const pe_int fun _ => .int _) (ve_call (k := 1) (io := [true, false]) (F := F_u_law_draw) (ok_u_law_draw T) (hr.mono (by decide)) hgd rfl T.m_u_law_draw T.F_u_law_draw.kp T.b_u_law_draw (va_cons (ve_var (pv 1)) (va_cons (ve_const pe_int fun _ => .int _) va_nil)))) va_nil))))) va_nil))))
    (vss_cons (vs_set (i := 7) takeF_ok rfl sc_law.nd rfl (Or.inl rfl) (ve_call (k := 2) (io := [true, false]) (F := F_u_law_pick) (ok_u_law_pick T) (hr.mono (by decide)) hgd rfl T.m_u_law_pick T.F_u_law_pick.kp T.b_u_law_pick (va_cons (ve_var (pv 1)) (va_cons (ve_lst (va_cons (ve_bin op_addA fAdd_ok (ve_const pe_int fun _ => .int _) (ve_call (k := 1) (io := [true, false]) (F := F_u_law_draw) (ok_u_law_draw T) (hr.mono (by decide)) hgd rfl T.m_u_law_draw T.F_u_law_draw.kp T.b_u_law_draw (va_cons (ve_var (pv 1)) (va_cons (ve_const pe_int fun _ => .int _) va_nil)))) (va_cons (ve_bin op_addA fAdd_ok (ve_const pe_int fun _ => .int _) (ve_call (k := 1) (io := [true, false]) (F := F_u_law_draw) (ok_u_law_draw T) (hr.mono (by decide)) hgd rfl T.m_u_law_draw T.F_u_law_draw.kp T.b_u_law_draw (va_cons (ve_var (pv 1)) (va_cons (ve_const pe_int fun _ => .int _) va_nil)))) (va_cons (ve_const pe_int fun _ => .int _) va_nil)))) va_nil))))
    (vss_cons (vs_set (i := 7) takeF_ok rfl sc_law.nd rfl (Or.inl rfl) (ve_ifE (vt_cmp (op_neA u64) fNe_ok (ve_var (pv 7)) (ve_var (pv 6)) (nomark _)) (ve_var (pv 7)) (ve_bin op_addA fAdd_ok (ve_const pe_int fun _ => .int _) (ve_bin op_mod fMod_ok (ve_var (pv 6)) (ve_const pe_int fun _ => .int _)))))
    (vss_cons (vs_set (i := 8) takeF_ok rfl sc_law.nd rfl (Or.inl rfl) (ve_call (k := 1) (io := [false, false]) (F := F_u_law_going) (ok_u_law_going T) (hr.mono (by decide)) hgd rfl T.m_u_law_going T.F_u_law_going.kp T.b_u_law_going (va_cons (ve_callB (call_max3Nu rfl) fMax3_ok (by rfl) T.z_max (by first | exact PySem.boot_max | exact PyProof.Rows.boot_max | rfl) (va_cons (ve_var (pv 6)) (va_cons (ve_var (pv 7)) (va_cons (ve_const pe_int fun _ => .int _) va_nil)))) (va_cons (ve_var (pv 5)) va_nil))))
    (vss_cons (vs_expr (ve_meth PySem.F.plainAttrs_list PySem.F.slot_list_append PySem.F.type_list_append mt_append lAppend_ok (pv 4) (va_cons (ve_var (pv 8)) va_nil)))
    (vss_cons (vs_expr (ve_meth PySem.F.plainAttrs_list PySem.F.slot_list_append PySem.F.type_list_append mt_append lAppend_ok (pv 3) (va_cons (ve_tup (va_cons (ve_var (pv 5)) (va_cons (ve_var (pv 6)) (va_cons (ve_slH (ve_var (pv 8)) (ve_var (pv 6))) va_nil)))) va_nil)))
    (vss_one (vs_expr (ve_meth PySem.F.plainAttrs_list PySem.F.slot_list_append PySem.F.type_list_append mt_append lAppend_ok (pv 3) (va_cons (ve_tup (va_cons (ve_var (pv 5)) (va_cons (ve_var (pv 7)) (va_cons (ve_slH (ve_var (pv 8)) (ve_var (pv 7))) va_nil)))) va_nil)))))))))))
    (vss_cons (vs_for PassesOwn.never rfl (vi_enumA rfl T.z_enumerate (ve_bin op_addA fAdd_ok (ve_bin op_addA fAdd_ok (ve_var (pv 3)) (ve_slH (ve_var (pv 3)) (ve_const pe_int fun _ => .int _))) (ve_slL (ve_var (pv 3)) (ve_un un_neg fNeg_ok (ve_const pe_int fun _ => .int _))))) (vg_tup (n := 2) rfl (vgs_cons (vg_name (i := 9) rfl sc_law.nd rfl (Or.inl rfl)) (vgs_cons (vg_tup (n := 3) rfl (vgs_cons (vg_name (i := 5) rfl sc_law.nd rfl (Or.inl rfl)) (vgs_cons (vg_name (i := 6) rfl sc_law.nd rfl (Or.inl rfl)) (vgs_cons (vg_name (i := 10) rfl sc_law.nd rfl (Or.inl rfl)) vgs_nil)))) vgs_nil)))
      (vss_one (vs_if (vt_not (vt_truth (ve_call (k := 1) (io := [false, false]) (F := F_u_law_is) (ok_u_law_is T) (hr.mono (by decide)) hgd rfl T.m_u_law_is T.F_u_law_is.kp T.b_u_law_is (va_cons (ve_call (k := 4) (io := [false, false, false]) (F := F_u_law_row) (ok_u_law_row T) (hr.mono (by decide)) hgd rfl T.m_u_law_row T.F_u_law_row.kp T.b_u_law_row (va_cons (ve_var (pv 5)) (va_cons (ve_var (pv 6)) (va_cons (ve_cmp (op_eqA u64) fEq_ok (ve_bin op_mod fMod_ok (ve_var (pv 9)) (ve_const pe_int fun _ => .int _)) (ve_const pe_int fun _ => .int _) (nomark _)) va_nil)))) (va_cons (ve_var (pv 10)) va_nil)))))
      (vss_one (vs_ret takeM_ok (ve_const pe_bl fun _ => .bl _)))
      vss_nil)))
    (vss_cons (vs_setLc (i := 11) (own := [("turn", 14)]) takeF_ok takeF_ok (fun _ _ _ q => q) rfl rfl sc_law.nd rfl rfl (sw_true rfl rfl rfl (by decide +kernel)) (vi_range1 rfl T.z_range (va_cons (ve_const pe_int fun _ => .int _) va_nil)) (blkOk_by (own := [("turn", 14)]) (N := N_law) (sc := defScope (top 28)) (by decide +kernel)) (fun _ _ _ _ _ => (vg_name (i := 14) rfl sc_law.nd rfl (Or.inl rfl))) (fun _ _ _ _ _ => vts_nil) (fun _ _ _ _ _ => (ve_call (k := 3) (io := [true]) (F := F_u_law_some_k) (ok_u_law_some_k T) (hr.mono (by decide)) hgd rfl T.m_u_law_some_k T.F_u_law_some_k.kp T.b_u_law_some_k (va_cons (ve_var (pv 1)) va_nil))))
    (vss_cons (vs_setLc (i := 12) (own := [("k", 9)]) takeF_ok takeF_ok (fun _ _ _ q => q) rfl rfl sc_law.nd rfl rfl (sw_true rfl rfl rfl (by decide +kernel)) (vi_items (ve_var (pv 11))) (blkOk_by (own := [("k", 9)]) (N := N_law) (sc := defScope (top 28)) (by decide +kernel)) (fun _ _ _ _ _ => (vg_name (i := 9) rfl sc_law.nd rfl (Or.inl rfl))) (fun _ _ _ _ _ => vts_nil) (fun _ _ _ _ _ => (ve_call (k := 1) (io := [false]) (F := F_u_law_own_item) (ok_u_law_own_item T) (hr.mono (by decide)) hgd rfl T.m_u_law_own_item T.F_u_law_own_item.kp T.b_u_law_own_item (va_cons (ve_var (pv 9)) va_nil))))
    (vss_cons (vs_set (i := 13) takeF_ok rfl sc_law.nd rfl (Or.inl rfl) (ve_bin op_addA fAdd_ok (ve_lc (own := [("k", 9)]) takeF_ok rfl sc_law.nd (vi_items (ve_slH (ve_var (pv 11)) (ve_const pe_int fun _ => .int _))) (blkOk_by (own := [("k", 9)]) (N := N_law) (sc := defScope (top 28)) (by decide +kernel)) (fun _ _ _ _ _ => (vg_name (i := 9) rfl sc_law.nd rfl (Or.inl rfl))) (fun _ _ _ _ _ => vts_nil) (fun _ _ _ _ _ => (ve_call (k := 2) (io := [false]) (F := F_steps_item) (ok_steps_item T) (hr.mono (by decide)) hgd rfl T.m_steps_item T.F_steps_item.kp T.b_steps_item (va_cons (ve_var (pv 9)) va_nil)))) (ve_lc (own := [("k", 9)]) takeF_ok rfl sc_law.nd (vi_items (ve_slL (ve_var (pv 11)) (ve_const pe_int fun _ => .int _))) (blkOk_by (own := [("k", 9)]) (N := N_law) (sc := defScope (top 28)) (by decide +kernel)) (fun _ _ _ _ _ => (vg_name (i := 9) rfl sc_law.nd rfl (Or.inl rfl))) (fun _ _ _ _ _ => vts_nil) (fun _ _ _ _ _ => (ve_callK0 (k := 2) (io := [false]) (F := F_steps_item) (ks := ["k"]) (ok_steps_item T) (hr.mono (by decide)) hgd rfl T.m_steps_item T.F_steps_item.kp T.k_steps_item_0_k (vk_cons (ve_var (pv 9)) vk_nil))))))
    (vss_cons (vs_if (vt_not (vt_truth (ve_call (k := 1) (io := [false, false]) (F := F_u_law_is) (ok_u_law_is T) (hr.mono (by decide)) hgd rfl T.m_u_law_is T.F_u_law_is.kp T.b_u_law_is (va_cons (ve_var (pv 13)) (va_cons (ve_var (pv 12)) va_nil)))))
      (vss_one (vs_ret takeM_ok (ve_const pe_bl fun _ => .bl _)))
      vss_nil)
    (vss_cons (vs_setLc (i := 11) (own := [("turn", 14)]) takeF_ok takeF_ok (fun _ _ _ q => q) rfl rfl sc_law.nd rfl rfl (sw_true rfl rfl rfl (by decide +kernel)) (vi_range1 rfl T.z_range (va_cons (ve_const pe_int fun _ => .int _) va_nil)) (blkOk_by (own := [("turn", 14)]) (N := N_law) (sc := defScope (top 28)) (by decide +kernel)) (fun _ _ _ _ _ => (vg_name (i := 14) rfl sc_law.nd rfl (Or.inl rfl))) (fun _ _ _ _ _ => vts_nil) (fun _ _ _ _ _ => (ve_call (k := 3) (io := [true]) (F := F_u_law_some_x) (ok_u_law_some_x T) (hr.mono (by decide)) hgd rfl T.m_u_law_some_x T.F_u_law_some_x.kp T.b_u_law_some_x (va_cons (ve_var (pv 1)) va_nil))))
    (vss_cons (vs_setLc (i := 12) (own := [("x", 15)]) takeF_ok takeF_ok (fun _ _ _ q => q) rfl rfl sc_law.nd rfl rfl (sw_true rfl rfl rfl (by decide +kernel)) (vi_items (ve_var (pv 11))) (blkOk_by (own := [("x", 15)]) (N := N_law) (sc := defScope (top 28)) (by decide +kernel)) (fun _ _ _ _ _ => (vg_name (i := 15) rfl sc_law.nd rfl (Or.inl rfl))) (fun _ _ _ _ _ => vts_nil) (fun _ _ _ _ _ => (ve_call (k := 1) (io := [false]) (F := F_u_law_own_place) (ok_u_law_own_place T) (hr.mono (by decide)) hgd rfl T.m_u_law_own_place T.F_u_law_own_place.kp T.b_u_law_own_place (va_cons (ve_var (pv 15)) va_nil))))
    (vss_cons (vs_set (i := 13) takeF_ok rfl sc_law.nd rfl (Or.inl rfl) (ve_bin op_addA fAdd_ok (ve_lc (own := [("x", 15)]) takeF_ok rfl sc_law.nd (vi_items (ve_slH (ve_var (pv 11)) (ve_const pe_int fun _ => .int _))) (blkOk_by (own := [("x", 15)]) (N := N_law) (sc := defScope (top 28)) (by decide +kernel)) (fun _ _ _ _ _ => (vg_name (i := 15) rfl sc_law.nd rfl (Or.inl rfl))) (fun _ _ _ _ _ => vts_nil) (fun _ _ _ _ _ => (ve_call (k := 1) (io := [false]) (F := F_steps_place) (ok_steps_place T) (hr.mono (by decide)) hgd rfl T.m_steps_place T.F_steps_place.kp T.b_steps_place (va_cons (ve_var (pv 15)) va_nil)))) (ve_lc (own := [("x", 15)]) takeF_ok rfl sc_law.nd (vi_items (ve_slL (ve_var (pv 11)) (ve_const pe_int fun _ => .int _))) (blkOk_by (own := [("x", 15)]) (N := N_law) (sc := defScope (top 28)) (by decide +kernel)) (fun _ _ _ _ _ => (vg_name (i := 15) rfl sc_law.nd rfl (Or.inl rfl))) (fun _ _ _ _ _ => vts_nil) (fun _ _ _ _ _ => (ve_callK0 (k := 1) (io := [false]) (F := F_steps_place) (ks := ["x"]) (ok_steps_place T) (hr.mono (by decide)) hgd rfl T.m_steps_place T.F_steps_place.kp T.k_steps_place_0_x (vk_cons (ve_var (pv 15)) vk_nil))))))
    (vss_cons (vs_if (vt_not (vt_truth (ve_call (k := 1) (io := [false, false]) (F := F_u_law_is) (ok_u_law_is T) (hr.mono (by decide)) hgd rfl T.m_u_law_is T.F_u_law_is.kp T.b_u_law_is (va_cons (ve_bin op_addA fAdd_ok (ve_var (pv 13)) (ve_lst (va_cons (ve_call (k := 1) (io := [false]) (F := F_steps_place) (ok_steps_place T) (hr.mono (by decide)) hgd rfl T.m_steps_place T.F_steps_place.kp T.b_steps_place (va_cons (ve_ix (ix_any u1) fIx_ok (ve_var (pv 11)) (ve_const pe_int fun _ => .int _) (fun _ _ => rfl)) va_nil)) va_nil))) (va_cons (ve_bin op_addA fAdd_ok (ve_var (pv 12)) (ve_slH (ve_var (pv 12)) (ve_const pe_int fun _ => .int _))) va_nil)))))
      (vss_one (vs_ret takeM_ok (ve_const pe_bl fun _ => .bl _)))
      vss_nil)
    (vss_one (vs_ret takeM_ok (ve_call (k := 2) (io := [true, false, false]) (F := F_u_law_are_sums_right) (ok_u_law_are_sums_right T) (hr.mono (by decide)) hgd rfl T.m_u_law_are_sums_right T.F_u_law_are_sums_right.kp T.b_u_law_are_sums_right (va_cons (ve_var (pv 1)) (va_cons (ve_ix (ix_any u1) fIx_ok (ve_var (pv 4)) (ve_const pe_int fun _ => .int _) (fun _ _ => rfl)) (va_cons (ve_ix (ix_any u1) fIx_ok (ve_var (pv 4)) (ve_const pe_int fun _ => .int _) (fun _ _ => rfl)) va_nil))))))))))))))))))
end
/-! ### the head -/
theorem kb_mk {K : PySem.W.Frag} {x qual : Str} {st : Stmt} {f : Addr} {fd : FuncData} {ps ks : List Str} {n : Nat} {ix : List Nat} (F : Fun K x qual st f fd)
    (h : ∀ (kV doc pm : Value) (an : Option Addr) (cdv ct : Value) (us ws : List Value), us.length = n → ws.length = ks.length → bindArgs (PySem.W.fnOf x qual (defArgs st) (defBody st) (defScope st) .none kV doc pm an cdv ct) ⟨us, ks.zip ws⟩ = pure (ps.zip (pick ix (us ++ ws)))) : KB fd ps ks n ix := by
  obtain ⟨oc, od, kV, doc, pm, an, cdv, ct, osl, rfl, lk, hcd⟩ := F.ex
  exact fun us ws h1 h2 => h kV doc pm an cdv ct us ws h1 h2
theorem all_mk {l : PySem.W.OpenLaw} {w : World} {K : PySem.W.Frag} {h : Heap} {mg : Str → Option Value} {fa f0 f1 f2 f3 f4 f5 f6 f7 f8 f9 f10 f11 f12 f13 f14 f15 f16 f17 f18 f19 f20 f21 f22 f23 f24 f25 : Addr} (X : K.In h) (G : h.Ns mainGlobals mg) (hfa : mg "law" = some (.ref fa))
    {od0 an0 od1 an1 od2 an2 od3 an3 od4 an4 od5 an5 od6 an6 od7 an7 od8 an8 od9 an9 od10 an10 od11 an11 od12 an12 od13 an13 od14 an14 od15 an15 od16 an16 od17 an17 od18 an18 od19 an19 od20 an20 od21 an21 od22 an22 od23 an23 od24 an24 od25 an25 : Option Addr} {sl0 sl1 sl2 sl3 sl4 sl5 sl6 sl7 sl8 sl9 sl10 sl11 sl12 sl13 sl14 sl15 sl16 sl17 sl18 sl19 sl20 sl21 sl22 sl23 sl24 sl25 : Array (Option Value)} {oc0 kV0 dc0 pm0 cd0 ct0 oc1 kV1 dc1 pm1 cd1 ct1 oc2 kV2 dc2 pm2 cd2 ct2 oc3 kV3 dc3 pm3 cd3 ct3 oc4 kV4 dc4 pm4 cd4 ct4 oc5 kV5 dc5 pm5 cd5 ct5 oc6 kV6 dc6 pm6 cd6 ct6 oc7 kV7 dc7 pm7 cd7 ct7 oc8 kV8 dc8 pm8 cd8 ct8 oc9 kV9 dc9 pm9 cd9 ct9 oc10 kV10 dc10 pm10 cd10 ct10 oc11 kV11 dc11 pm11 cd11 ct11 oc12 kV12 dc12 pm12 cd12 ct12 oc13 kV13 dc13 pm13 cd13 ct13 oc14 kV14 dc14 pm14 cd14 ct14 oc15 kV15 dc15 pm15 cd15 ct15 oc16 kV16 dc16 pm16 cd16 ct16 oc17 kV17 dc17 pm17 cd17 ct17 oc18 kV18 dc18 pm18 cd18 ct18 oc19 kV19 dc19 pm19 cd19 ct19 oc20 kV20 dc20 pm20 cd20 ct20 oc21 kV21 dc21 pm21 cd21 ct21 oc22 kV22 dc22 pm22 cd22 ct22 oc23 kV23 dc23 pm23 cd23 ct23 oc24 kV24 dc24 pm24 cd24 ct24 oc25 kV25 dc25 pm25 cd25 ct25 : Value}
    (a0 : PySem.W.nsIn K mainGlobals "figures_row" = some (some (.ref f0))) (l0 : K.lookup f0 = some ⟨oc0, od0, .func (PySem.W.fnOf "figures_row" "figures_row" (defArgs (top 7)) (defBody (top 7)) (defScope (top 7)) .none kV0 dc0 pm0 an0 cd0 ct0), sl0⟩) (c0 : PySem.W.codeIn K cd0 "figures_row" = true) (k0 : PySem.W.keepIn K (.ref f0) = true)
    (a1 : PySem.W.nsIn K mainGlobals "steps_item" = some (some (.ref f1))) (l1 : K.lookup f1 = some ⟨oc1, od1, .func (PySem.W.fnOf "steps_item" "steps_item" (defArgs (top 8)) (defBody (top 8)) (defScope (top 8)) .none kV1 dc1 pm1 an1 cd1 ct1), sl1⟩) (c1 : PySem.W.codeIn K cd1 "steps_item" = true) (k1 : PySem.W.keepIn K (.ref f1) = true)
    (a2 : PySem.W.nsIn K mainGlobals "steps_place" = some (some (.ref f2))) (l2 : K.lookup f2 = some ⟨oc2, od2, .func (PySem.W.fnOf "steps_place" "steps_place" (defArgs (top 9)) (defBody (top 9)) (defScope (top 9)) .none kV2 dc2 pm2 an2 cd2 ct2), sl2⟩) (c2 : PySem.W.codeIn K cd2 "steps_place" = true) (k2 : PySem.W.keepIn K (.ref f2) = true)
    (a3 : PySem.W.nsIn K mainGlobals "_law_own_bag" = some (some (.ref f3))) (l3 : K.lookup f3 = some ⟨oc3, od3, .func (PySem.W.fnOf "_law_own_bag" "_law_own_bag" (defArgs (top 15)) (defBody (top 15)) (defScope (top 15)) .none kV3 dc3 pm3 an3 cd3 ct3), sl3⟩) (c3 : PySem.W.codeIn K cd3 "_law_own_bag" = true) (k3 : PySem.W.keepIn K (.ref f3) = true)
    (a4 : PySem.W.nsIn K mainGlobals "_law_draw" = some (some (.ref f4))) (l4 : K.lookup f4 = some ⟨oc4, od4, .func (PySem.W.fnOf "_law_draw" "_law_draw" (defArgs (top 16)) (defBody (top 16)) (defScope (top 16)) .none kV4 dc4 pm4 an4 cd4 ct4), sl4⟩) (c4 : PySem.W.codeIn K cd4 "_law_draw" = true) (k4 : PySem.W.keepIn K (.ref f4) = true)
    (a5 : PySem.W.nsIn K mainGlobals "_law_pick" = some (some (.ref f5))) (l5 : K.lookup f5 = some ⟨oc5, od5, .func (PySem.W.fnOf "_law_pick" "_law_pick" (defArgs (top 17)) (defBody (top 17)) (defScope (top 17)) .none kV5 dc5 pm5 an5 cd5 ct5), sl5⟩) (c5 : PySem.W.codeIn K cd5 "_law_pick" = true) (k5 : PySem.W.keepIn K (.ref f5) = true)
    (a6 : PySem.W.nsIn K mainGlobals "_law_is" = some (some (.ref f6))) (l6 : K.lookup f6 = some ⟨oc6, od6, .func (PySem.W.fnOf "_law_is" "_law_is" (defArgs (top 19)) (defBody (top 19)) (defScope (top 19)) .none kV6 dc6 pm6 an6 cd6 ct6), sl6⟩) (c6 : PySem.W.codeIn K cd6 "_law_is" = true) (k6 : PySem.W.keepIn K (.ref f6) = true)
    (a7 : PySem.W.nsIn K mainGlobals "_law_going" = some (some (.ref f7))) (l7 : K.lookup f7 = some ⟨oc7, od7, .func (PySem.W.fnOf "_law_going" "_law_going" (defArgs (top 20)) (defBody (top 20)) (defScope (top 20)) .none kV7 dc7 pm7 an7 cd7 ct7), sl7⟩) (c7 : PySem.W.codeIn K cd7 "_law_going" = true) (k7 : PySem.W.keepIn K (.ref f7) = true)
    (a8 : PySem.W.nsIn K mainGlobals "steps_free" = some (some (.ref f8))) (l8 : K.lookup f8 = some ⟨oc8, od8, .func (PySem.W.fnOf "steps_free" "steps_free" (defArgs (top 10)) (defBody (top 10)) (defScope (top 10)) .none kV8 dc8 pm8 an8 cd8 ct8), sl8⟩) (c8 : PySem.W.codeIn K cd8 "steps_free" = true) (k8 : PySem.W.keepIn K (.ref f8) = true)
    (a9 : PySem.W.nsIn K mainGlobals "sums_free" = some (some (.ref f9))) (l9 : K.lookup f9 = some ⟨oc9, od9, .func (PySem.W.fnOf "sums_free" "sums_free" (defArgs (top 11)) (defBody (top 11)) (defScope (top 11)) .none kV9 dc9 pm9 an9 cd9 ct9), sl9⟩) (c9 : PySem.W.codeIn K cd9 "sums_free" = true) (k9 : PySem.W.keepIn K (.ref f9) = true)
    (a10 : PySem.W.nsIn K mainGlobals "carries_free" = some (some (.ref f10))) (l10 : K.lookup f10 = some ⟨oc10, od10, .func (PySem.W.fnOf "carries_free" "carries_free" (defArgs (top 12)) (defBody (top 12)) (defScope (top 12)) .none kV10 dc10 pm10 an10 cd10 ct10), sl10⟩) (c10 : PySem.W.codeIn K cd10 "carries_free" = true) (k10 : PySem.W.keepIn K (.ref f10) = true)
    (a11 : PySem.W.nsIn K mainGlobals "fours_free" = some (some (.ref f11))) (l11 : K.lookup f11 = some ⟨oc11, od11, .func (PySem.W.fnOf "fours_free" "fours_free" (defArgs (top 13)) (defBody (top 13)) (defScope (top 13)) .none kV11 dc11 pm11 an11 cd11 ct11), sl11⟩) (c11 : PySem.W.codeIn K cd11 "fours_free" = true) (k11 : PySem.W.keepIn K (.ref f11) = true)
    (a12 : PySem.W.nsIn K mainGlobals "_law_row" = some (some (.ref f12))) (l12 : K.lookup f12 = some ⟨oc12, od12, .func (PySem.W.fnOf "_law_row" "_law_row" (defArgs (top 21)) (defBody (top 21)) (defScope (top 21)) .none kV12 dc12 pm12 an12 cd12 ct12), sl12⟩) (c12 : PySem.W.codeIn K cd12 "_law_row" = true) (k12 : PySem.W.keepIn K (.ref f12) = true)
    (a13 : PySem.W.nsIn K mainGlobals "_law_own_item" = some (some (.ref f13))) (l13 : K.lookup f13 = some ⟨oc13, od13, .func (PySem.W.fnOf "_law_own_item" "_law_own_item" (defArgs (top 22)) (defBody (top 22)) (defScope (top 22)) .none kV13 dc13 pm13 an13 cd13 ct13), sl13⟩) (c13 : PySem.W.codeIn K cd13 "_law_own_item" = true) (k13 : PySem.W.keepIn K (.ref f13) = true)
    (a14 : PySem.W.nsIn K mainGlobals "_law_own_place" = some (some (.ref f14))) (l14 : K.lookup f14 = some ⟨oc14, od14, .func (PySem.W.fnOf "_law_own_place" "_law_own_place" (defArgs (top 23)) (defBody (top 23)) (defScope (top 23)) .none kV14 dc14 pm14 an14 cd14 ct14), sl14⟩) (c14 : PySem.W.codeIn K cd14 "_law_own_place" = true) (k14 : PySem.W.keepIn K (.ref f14) = true)
    (a15 : PySem.W.nsIn K mainGlobals "_law_great" = some (some (.ref f15))) (l15 : K.lookup f15 = some ⟨oc15, od15, .func (PySem.W.fnOf "_law_great" "_law_great" (defArgs (top 18)) (defBody (top 18)) (defScope (top 18)) .none kV15 dc15 pm15 an15 cd15 ct15), sl15⟩) (c15 : PySem.W.codeIn K cd15 "_law_great" = true) (k15 : PySem.W.keepIn K (.ref f15) = true)
    (a16 : PySem.W.nsIn K mainGlobals "_law_some_k" = some (some (.ref f16))) (l16 : K.lookup f16 = some ⟨oc16, od16, .func (PySem.W.fnOf "_law_some_k" "_law_some_k" (defArgs (top 24)) (defBody (top 24)) (defScope (top 24)) .none kV16 dc16 pm16 an16 cd16 ct16), sl16⟩) (c16 : PySem.W.codeIn K cd16 "_law_some_k" = true) (k16 : PySem.W.keepIn K (.ref f16) = true)
    (a17 : PySem.W.nsIn K mainGlobals "_law_some_x" = some (some (.ref f17))) (l17 : K.lookup f17 = some ⟨oc17, od17, .func (PySem.W.fnOf "_law_some_x" "_law_some_x" (defArgs (top 25)) (defBody (top 25)) (defScope (top 25)) .none kV17 dc17 pm17 an17 cd17 ct17), sl17⟩) (c17 : PySem.W.codeIn K cd17 "_law_some_x" = true) (k17 : PySem.W.keepIn K (.ref f17) = true)
    (a18 : PySem.W.nsIn K mainGlobals "numbers_summed" = some (some (.ref f18))) (l18 : K.lookup f18 = some ⟨oc18, od18, .func (PySem.W.fnOf "numbers_summed" "numbers_summed" (defArgs (top 1)) (defBody (top 1)) (defScope (top 1)) .none kV18 dc18 pm18 an18 cd18 ct18), sl18⟩) (c18 : PySem.W.codeIn K cd18 "numbers_summed" = true) (k18 : PySem.W.keepIn K (.ref f18) = true)
    (a19 : PySem.W.nsIn K mainGlobals "summed_all" = some (some (.ref f19))) (l19 : K.lookup f19 = some ⟨oc19, od19, .func (PySem.W.fnOf "summed_all" "summed_all" (defArgs (top 2)) (defBody (top 2)) (defScope (top 2)) .none kV19 dc19 pm19 an19 cd19 ct19), sl19⟩) (c19 : PySem.W.codeIn K cd19 "summed_all" = true) (k19 : PySem.W.keepIn K (.ref f19) = true)
    (a20 : PySem.W.nsIn K mainGlobals "bits_of" = some (some (.ref f20))) (l20 : K.lookup f20 = some ⟨oc20, od20, .func (PySem.W.fnOf "bits_of" "bits_of" (defArgs (top 3)) (defBody (top 3)) (defScope (top 3)) .none kV20 dc20 pm20 an20 cd20 ct20), sl20⟩) (c20 : PySem.W.codeIn K cd20 "bits_of" = true) (k20 : PySem.W.keepIn K (.ref f20) = true)
    (a21 : PySem.W.nsIn K mainGlobals "number_of_bits" = some (some (.ref f21))) (l21 : K.lookup f21 = some ⟨oc21, od21, .func (PySem.W.fnOf "number_of_bits" "number_of_bits" (defArgs (top 4)) (defBody (top 4)) (defScope (top 4)) .none kV21 dc21 pm21 an21 cd21 ct21), sl21⟩) (c21 : PySem.W.codeIn K cd21 "number_of_bits" = true) (k21 : PySem.W.keepIn K (.ref f21) = true)
    (a22 : PySem.W.nsIn K mainGlobals "least_unbarred" = some (some (.ref f22))) (l22 : K.lookup f22 = some ⟨oc22, od22, .func (PySem.W.fnOf "least_unbarred" "least_unbarred" (defArgs (top 5)) (defBody (top 5)) (defScope (top 5)) .none kV22 dc22 pm22 an22 cd22 ct22), sl22⟩) (c22 : PySem.W.codeIn K cd22 "least_unbarred" = true) (k22 : PySem.W.keepIn K (.ref f22) = true)
    (a23 : PySem.W.nsIn K mainGlobals "_law_sums" = some (some (.ref f23))) (l23 : K.lookup f23 = some ⟨oc23, od23, .func (PySem.W.fnOf "_law_sums" "_law_sums" (defArgs (top 26)) (defBody (top 26)) (defScope (top 26)) .none kV23 dc23 pm23 an23 cd23 ct23), sl23⟩) (c23 : PySem.W.codeIn K cd23 "_law_sums" = true) (k23 : PySem.W.keepIn K (.ref f23) = true)
    (a24 : PySem.W.nsIn K mainGlobals "_law_are_sums_right" = some (some (.ref f24))) (l24 : K.lookup f24 = some ⟨oc24, od24, .func (PySem.W.fnOf "_law_are_sums_right" "_law_are_sums_right" (defArgs (top 27)) (defBody (top 27)) (defScope (top 27)) .none kV24 dc24 pm24 an24 cd24 ct24), sl24⟩) (c24 : PySem.W.codeIn K cd24 "_law_are_sums_right" = true) (k24 : PySem.W.keepIn K (.ref f24) = true)
    (a25 : PySem.W.nsIn K mainGlobals "law" = some (some (.ref f25))) (l25 : K.lookup f25 = some ⟨oc25, od25, .func (PySem.W.fnOf "law" "law" (defArgs (top 28)) (defBody (top 28)) (defScope (top 28)) .none kV25 dc25 pm25 an25 cd25 ct25), sl25⟩) (c25 : PySem.W.codeIn K cd25 "law" = true) (k25 : PySem.W.keepIn K (.ref f25) = true)
    (zabs : PySem.W.nsIn K mainGlobals "abs" = some none)
    (zenumerate : PySem.W.nsIn K mainGlobals "enumerate" = some none)
    (zlen : PySem.W.nsIn K mainGlobals "len" = some none)
    (zlist : PySem.W.nsIn K mainGlobals "list" = some none)
    (zmax : PySem.W.nsIn K mainGlobals "max" = some none)
    (zrange : PySem.W.nsIn K mainGlobals "range" = some none)
    (zrepr : PySem.W.nsIn K mainGlobals "repr" = some none)
    (zreversed : PySem.W.nsIn K mainGlobals "reversed" = some none)
    (zsum : PySem.W.nsIn K mainGlobals "sum" = some none)
    (ztuple : PySem.W.nsIn K mainGlobals "tuple" = some none) :
    ∃ fd : FuncData, (∀ (s : Shared) (v : Value), BindsTo s fd ⟨[v], []⟩ [("script", v)]) ∧ ∀ base : Heap, K.In base → base.Ns mainGlobals mg → FnG l.prog w K mg base 5 fa fd ["script"] (spF K 1 F_law) := by
  have e := hfa.symm.trans (PySem.W.mg_of X G a25)
  cases e
  have F0 := fun_mk (st := top 7) l0 c0 k0
  have b0 := F0.binds (ps := ["k"]) fun _ _ _ _ _ _ us hl => match us, hl with | [_], _ => rfl
  have F1 := fun_mk (st := top 8) l1 c1 k1
  have b1 := F1.binds (ps := ["k"]) fun _ _ _ _ _ _ us hl => match us, hl with | [_], _ => rfl
  have F2 := fun_mk (st := top 9) l2 c2 k2
  have b2 := F2.binds (ps := ["x"]) fun _ _ _ _ _ _ us hl => match us, hl with | [_], _ => rfl
  have F3 := fun_mk (st := top 15) l3 c3 k3
  have b3 := F3.binds (ps := ["script"]) fun _ _ _ _ _ _ us hl => match us, hl with | [_], _ => rfl
  have F4 := fun_mk (st := top 16) l4 c4 k4
  have b4 := F4.binds (ps := ["bag", "below"]) fun _ _ _ _ _ _ us hl => match us, hl with | [_, _], _ => rfl
  have F5 := fun_mk (st := top 17) l5 c5 k5
  have b5 := F5.binds (ps := ["bag", "some"]) fun _ _ _ _ _ _ us hl => match us, hl with | [_, _], _ => rfl
  have F6 := fun_mk (st := top 19) l6 c6 k6
  have b6 := F6.binds (ps := ["told", "due"]) fun _ _ _ _ _ _ us hl => match us, hl with | [_, _], _ => rfl
  have F7 := fun_mk (st := top 20) l7 c7 k7
  have b7 := F7.binds (ps := ["n", "way"]) fun _ _ _ _ _ _ us hl => match us, hl with | [_, _], _ => rfl
  have F8 := fun_mk (st := top 10) l8 c8 k8
  have b8 := F8.binds (ps := ["n"]) fun _ _ _ _ _ _ us hl => match us, hl with | [_], _ => rfl
  have F9 := fun_mk (st := top 11) l9 c9 k9
  have b9 := F9.binds (ps := ["n", "is_twice"]) fun _ _ _ _ _ _ us hl => match us, hl with | [_, _], _ => rfl
  have F10 := fun_mk (st := top 12) l10 c10 k10
  have b10 := F10.binds (ps := ["n"]) fun _ _ _ _ _ _ us hl => match us, hl with | [_], _ => rfl
  have F11 := fun_mk (st := top 13) l11 c11 k11
  have b11 := F11.binds (ps := ["n"]) fun _ _ _ _ _ _ us hl => match us, hl with | [_], _ => rfl
  have F12 := fun_mk (st := top 21) l12 c12 k12
  have b12 := F12.binds (ps := ["way", "n", "is_named"]) fun _ _ _ _ _ _ us hl => match us, hl with | [_, _, _], _ => rfl
  have F13 := fun_mk (st := top 22) l13 c13 k13
  have b13 := F13.binds (ps := ["k"]) fun _ _ _ _ _ _ us hl => match us, hl with | [_], _ => rfl
  have F14 := fun_mk (st := top 23) l14 c14 k14
  have b14 := F14.binds (ps := ["x"]) fun _ _ _ _ _ _ us hl => match us, hl with | [_], _ => rfl
  have F15 := fun_mk (st := top 18) l15 c15 k15
  have b15 := F15.binds (ps := ["bag", "below"]) fun _ _ _ _ _ _ us hl => match us, hl with | [_, _], _ => rfl
  have F16 := fun_mk (st := top 24) l16 c16 k16
  have b16 := F16.binds (ps := ["bag"]) fun _ _ _ _ _ _ us hl => match us, hl with | [_], _ => rfl
  have F17 := fun_mk (st := top 25) l17 c17 k17
  have b17 := F17.binds (ps := ["bag"]) fun _ _ _ _ _ _ us hl => match us, hl with | [_], _ => rfl
  have F18 := fun_mk (st := top 1) l18 c18 k18
  have b18 := F18.binds (ps := ["a", "b"]) fun _ _ _ _ _ _ us hl => match us, hl with | [_, _], _ => rfl
  have F19 := fun_mk (st := top 2) l19 c19 k19
  have b19 := F19.binds (ps := ["numbers"]) fun _ _ _ _ _ _ us hl => match us, hl with | [_], _ => rfl
  have F20 := fun_mk (st := top 3) l20 c20 k20
  have b20 := F20.binds (ps := ["a"]) fun _ _ _ _ _ _ us hl => match us, hl with | [_], _ => rfl
  have F21 := fun_mk (st := top 4) l21 c21 k21
  have b21 := F21.binds (ps := ["bits"]) fun _ _ _ _ _ _ us hl => match us, hl with | [_], _ => rfl
  have F22 := fun_mk (st := top 5) l22 c22 k22
  have b22 := F22.binds (ps := ["numbers"]) fun _ _ _ _ _ _ us hl => match us, hl with | [_], _ => rfl
  have F23 := fun_mk (st := top 26) l23 c23 k23
  have b23 := F23.binds (ps := ["taken", "is_three"]) fun _ _ _ _ _ _ us hl => match us, hl with | [_, _], _ => rfl
  have F24 := fun_mk (st := top 27) l24 c24 k24
  have b24 := F24.binds (ps := ["bag", "carries", "fours"]) fun _ _ _ _ _ _ us hl => match us, hl with | [_, _, _], _ => rfl
  have F25 := fun_mk (st := top 28) l25 c25 k25
  have b25 := F25.binds (ps := ["script"]) fun _ _ _ _ _ _ us hl => match us, hl with | [_], _ => rfl
  have q0 := kb_mk (ps := ["n"]) (ks := ["n"]) (n := 0) (ix := [0]) F8 fun _ _ _ _ _ _ us ws h1 h2 => match us, ws, h1, h2 with | [], [_], _, _ => rfl
  have q1 := kb_mk (ps := ["n"]) (ks := ["n"]) (n := 0) (ix := [0]) F10 fun _ _ _ _ _ _ us ws h1 h2 => match us, ws, h1, h2 with | [], [_], _, _ => rfl
  have q2 := kb_mk (ps := ["n"]) (ks := ["n"]) (n := 0) (ix := [0]) F11 fun _ _ _ _ _ _ us ws h1 h2 => match us, ws, h1, h2 with | [], [_], _, _ => rfl
  have q3 := kb_mk (ps := ["n", "is_twice"]) (ks := ["n", "is_twice"]) (n := 0) (ix := [0, 1]) F9 fun _ _ _ _ _ _ us ws h1 h2 => match us, ws, h1, h2 with | [], [_, _], _, _ => rfl
  have q4 := kb_mk (ps := ["a", "b"]) (ks := ["a", "b"]) (n := 0) (ix := [0, 1]) F18 fun _ _ _ _ _ _ us ws h1 h2 => match us, ws, h1, h2 with | [], [_, _], _, _ => rfl
  have q5 := kb_mk (ps := ["numbers"]) (ks := ["numbers"]) (n := 0) (ix := [0]) F19 fun _ _ _ _ _ _ us ws h1 h2 => match us, ws, h1, h2 with | [], [_], _, _ => rfl
  have q6 := kb_mk (ps := ["a"]) (ks := ["a"]) (n := 0) (ix := [0]) F20 fun _ _ _ _ _ _ us ws h1 h2 => match us, ws, h1, h2 with | [], [_], _, _ => rfl
  have q7 := kb_mk (ps := ["numbers"]) (ks := ["numbers"]) (n := 0) (ix := [0]) F22 fun _ _ _ _ _ _ us ws h1 h2 => match us, ws, h1, h2 with | [], [_], _, _ => rfl
  have q8 := kb_mk (ps := ["k"]) (ks := ["k"]) (n := 0) (ix := [0]) F1 fun _ _ _ _ _ _ us ws h1 h2 => match us, ws, h1, h2 with | [], [_], _, _ => rfl
  have q9 := kb_mk (ps := ["x"]) (ks := ["x"]) (n := 0) (ix := [0]) F2 fun _ _ _ _ _ _ us ws h1 h2 => match us, ws, h1, h2 with | [], [_], _, _ => rfl
  have T : Txt K mg := ⟨f0, _, F0, PySem.W.mg_of X G a0, b0, f1, _, F1, PySem.W.mg_of X G a1, b1, f2, _, F2, PySem.W.mg_of X G a2, b2, f3, _, F3, PySem.W.mg_of X G a3, b3, f4, _, F4, PySem.W.mg_of X G a4, b4, f5, _, F5, PySem.W.mg_of X G a5, b5, f6, _, F6, PySem.W.mg_of X G a6, b6, f7, _, F7, PySem.W.mg_of X G a7, b7, f8, _, F8, PySem.W.mg_of X G a8, b8, f9, _, F9, PySem.W.mg_of X G a9, b9, f10, _, F10, PySem.W.mg_of X G a10, b10, f11, _, F11, PySem.W.mg_of X G a11, b11, f12, _, F12, PySem.W.mg_of X G a12, b12, f13, _, F13, PySem.W.mg_of X G a13, b13, f14, _, F14, PySem.W.mg_of X G a14, b14, f15, _, F15, PySem.W.mg_of X G a15, b15, f16, _, F16, PySem.W.mg_of X G a16, b16, f17, _, F17, PySem.W.mg_of X G a17, b17, f18, _, F18, PySem.W.mg_of X G a18, b18, f19, _, F19, PySem.W.mg_of X G a19, b19, f20, _, F20, PySem.W.mg_of X G a20, b20, f21, _, F21, PySem.W.mg_of X G a21, b21, f22, _, F22, PySem.W.mg_of X G a22, b22, f23, _, F23, PySem.W.mg_of X G a23, b23, f24, _, F24, PySem.W.mg_of X G a24, b24, fa, _, F25, PySem.W.mg_of X G a25, b25, q0, q1, q2, q3, q4, q5, q6, q7, q8, q9, PySem.W.mg_none_of X G zabs, PySem.W.mg_none_of X G zenumerate, PySem.W.mg_none_of X G zlen, PySem.W.mg_none_of X G zlist, PySem.W.mg_none_of X G zmax, PySem.W.mg_none_of X G zrange, PySem.W.mg_none_of X G zrepr, PySem.W.mg_none_of X G zreversed, PySem.W.mg_none_of X G zsum, PySem.W.mg_none_of X G ztuple⟩
  exact ⟨_, fun s v => .of_eq rfl, fun base _ _ => ok_law ⟨f0, _, F0, PySem.W.mg_of X G a0, b0, f1, _, F1, PySem.W.mg_of X G a1, b1, f2, _, F2, PySem.W.mg_of X G a2, b2, f3, _, F3, PySem.W.mg_of X G a3, b3, f4, _, F4, PySem.W.mg_of X G a4, b4, f5, _, F5, PySem.W.mg_of X G a5, b5, f6, _, F6, PySem.W.mg_of X G a6, b6, f7, _, F7, PySem.W.mg_of X G a7, b7, f8, _, F8, PySem.W.mg_of X G a8, b8, f9, _, F9, PySem.W.mg_of X G a9, b9, f10, _, F10, PySem.W.mg_of X G a10, b10, f11, _, F11, PySem.W.mg_of X G a11, b11, f12, _, F12, PySem.W.mg_of X G a12, b12, f13, _, F13, PySem.W.mg_of X G a13, b13, f14, _, F14, PySem.W.mg_of X G a14, b14, f15, _, F15, PySem.W.mg_of X G a15, b15, f16, _, F16, PySem.W.mg_of X G a16, b16, f17, _, F17, PySem.W.mg_of X G a17, b17, f18, _, F18, PySem.W.mg_of X G a18, b18, f19, _, F19, PySem.W.mg_of X G a19, b19, f20, _, F20, PySem.W.mg_of X G a20, b20, f21, _, F21, PySem.W.mg_of X G a21, b21, f22, _, F22, PySem.W.mg_of X G a22, b22, f23, _, F23, PySem.W.mg_of X G a23, b23, f24, _, F24, PySem.W.mg_of X G a24, b24, fa, _, F25, PySem.W.mg_of X G a25, b25, q0, q1, q2, q3, q4, q5, q6, q7, q8, q9, PySem.W.mg_none_of X G zabs, PySem.W.mg_none_of X G zenumerate, PySem.W.mg_none_of X G zlen, PySem.W.mg_none_of X G zlist, PySem.W.mg_none_of X G zmax, PySem.W.mg_none_of X G zrange, PySem.W.mg_none_of X G zrepr, PySem.W.mg_none_of X G zreversed, PySem.W.mg_none_of X G zsum, PySem.W.mg_none_of X G ztuple⟩⟩

end K37
open PySem PySem.W PyProof.Rows
set_option maxRecDepth 100000 in
set_option maxHeartbeats 0 in
theorem PySem.Challenge.cw_firstthatfits_k37_whole_numbers_taken_holds : PySem.Challenge.rw_firstthatfits_k37_whole_numbers_taken.Holds := by
  w_on; o_law; k_head; (case hw => w_witness2)
  k_fill
  refine Pv.walk_ofG (l := PySem.Challenge.rw_firstthatfits_k37_whole_numbers_taken) (k := 5) (x := "script") (F := K37.F_law) rfl (by decide) rfl ⟨rfl, by decide, by decide⟩ (fun w h Y => PySem.W.kIn_of Y) ?F K37.law_true
  case F =>
    intro w mg fa h KX G hmg
    refine' K37.all_mk KX G hmg ?a0 ?l0 ?c0 ?k0 ?a1 ?l1 ?c1 ?k1 ?a2 ?l2 ?c2 ?k2 ?a3 ?l3 ?c3 ?k3 ?a4 ?l4 ?c4 ?k4 ?a5 ?l5 ?c5 ?k5 ?a6 ?l6 ?c6 ?k6 ?a7 ?l7 ?c7 ?k7 ?a8 ?l8 ?c8 ?k8 ?a9 ?l9 ?c9 ?k9 ?a10 ?l10 ?c10 ?k10 ?a11 ?l11 ?c11 ?k11 ?a12 ?l12 ?c12 ?k12 ?a13 ?l13 ?c13 ?k13 ?a14 ?l14 ?c14 ?k14 ?a15 ?l15 ?c15 ?k15 ?a16 ?l16 ?c16 ?k16 ?a17 ?l17 ?c17 ?k17 ?a18 ?l18 ?c18 ?k18 ?a19 ?l19 ?c19 ?k19 ?a20 ?l20 ?c20 ?k20 ?a21 ?l21 ?c21 ?k21 ?a22 ?l22 ?c22 ?k22 ?a23 ?l23 ?c23 ?k23 ?a24 ?l24 ?c24 ?k24 ?a25 ?l25 ?c25 ?k25 ?zabs ?zenumerate ?zlen ?zlist ?zmax ?zrange ?zrepr ?zreversed ?zsum ?ztuple
    (case a0 => k_is)
    (case l0 => k_is)
    (case c0 => k_is)
    (case k0 => k_is)
    (case a1 => k_is)
    (case l1 => k_is)
    (case c1 => k_is)
    (case k1 => k_is)
    (case a2 => k_is)
    (case l2 => k_is)
    (case c2 => k_is)
    (case k2 => k_is)
    (case a3 => k_is)
    (case l3 => k_is)
    (case c3 => k_is)
    (case k3 => k_is)
    (case a4 => k_is)
    (case l4 => k_is)
    (case c4 => k_is)
    (case k4 => k_is)
    (case a5 => k_is)
    (case l5 => k_is)
    (case c5 => k_is)
    (case k5 => k_is)
    (case a6 => k_is)
    (case l6 => k_is)
    (case c6 => k_is)
    (case k6 => k_is)
    (case a7 => k_is)
    (case l7 => k_is)
    (case c7 => k_is)
    (case k7 => k_is)
    (case a8 => k_is)
    (case l8 => k_is)
    (case c8 => k_is)
    (case k8 => k_is)
    (case a9 => k_is)
    (case l9 => k_is)
    (case c9 => k_is)
    (case k9 => k_is)
    (case a10 => k_is)
    (case l10 => k_is)
    (case c10 => k_is)
    (case k10 => k_is)
    (case a11 => k_is)
    (case l11 => k_is)
    (case c11 => k_is)
    (case k11 => k_is)
    (case a12 => k_is)
    (case l12 => k_is)
    (case c12 => k_is)
    (case k12 => k_is)
    (case a13 => k_is)
    (case l13 => k_is)
    (case c13 => k_is)
    (case k13 => k_is)
    (case a14 => k_is)
    (case l14 => k_is)
    (case c14 => k_is)
    (case k14 => k_is)
    (case a15 => k_is)
    (case l15 => k_is)
    (case c15 => k_is)
    (case k15 => k_is)
    (case a16 => k_is)
    (case l16 => k_is)
    (case c16 => k_is)
    (case k16 => k_is)
    (case a17 => k_is)
    (case l17 => k_is)
    (case c17 => k_is)
    (case k17 => k_is)
    (case a18 => k_is)
    (case l18 => k_is)
    (case c18 => k_is)
    (case k18 => k_is)
    (case a19 => k_is)
    (case l19 => k_is)
    (case c19 => k_is)
    (case k19 => k_is)
    (case a20 => k_is)
    (case l20 => k_is)
    (case c20 => k_is)
    (case k20 => k_is)
    (case a21 => k_is)
    (case l21 => k_is)
    (case c21 => k_is)
    (case k21 => k_is)
    (case a22 => k_is)
    (case l22 => k_is)
    (case c22 => k_is)
    (case k22 => k_is)
    (case a23 => k_is)
    (case l23 => k_is)
    (case c23 => k_is)
    (case k23 => k_is)
    (case a24 => k_is)
    (case l24 => k_is)
    (case c24 => k_is)
    (case k24 => k_is)
    (case a25 => k_is)
    (case l25 => k_is)
    (case c25 => k_is)
    (case k25 => k_is)
    (case zabs => k_is)
    (case zenumerate => k_is)
    (case zlen => k_is)
    (case zlist => k_is)
    (case zmax => k_is)
    (case zrange => k_is)
    (case zrepr => k_is)
    (case zreversed => k_is)
    (case zsum => k_is)
    (case ztuple => k_is)


