import PyProof.Rows.All
import Wide.All
import OpenK.AllK
import Wide.FinOn
import KE.KStateDown
import HandS.ForMost
import HandS.More
import HandS.Exc
import HandS.ExcOwn
import HandS.TryOnly
import HandS.WordsExc
import HandS.Defaults
import HandS.Walk
import HandS.DictComp
import HandS.IsInst
import HandS.Flow
import HandS.Small
import HandS.Head0
import HandS.Head1
import HandS.Head2
import HandS.HeadEnd
import HandS.HeadHook1
import HandS.HeadHook2
import HandS.HeadHook3
import PyProof.Rows.SortShellAny
import PySem.Challenge.RW_paritypool_k40_changes
set_option Elab.async false
set_option linter.all false
set_option maxRecDepth 100000
set_option maxHeartbeats 0
/-! U: a frozen part F of the heap H, moves from one state to the next, and one rule a construct, whatever the kinds of its values. -/
namespace U
open PySem PySem.Spec PySem.Calls L2
/-! ### F, the frozen part of H -/
def Sub (F H : Hp) : Prop := ∀ b o, F b = some o → H b = some o ∨ ((∃ kvs, o = HO.dK kvs) ∧ ∃ ob, H b = some (.frz ob o))
/-- from (F, H) to (F', H'), where the objects in M may have changed -/
structure Mv (M : Addr → Prop) (F H F' H' : Hp) : Prop where
  ext : ∀ b o, F b = some o → F' b = some o
  sub : Sub F' H'
  kp : ∀ b o, ¬ M b → H b = some o → H' b = some o
  fr : ∀ b o, ¬ M b → H b = some o → F' b = F b
  al : ∀ b o, H b = some o → ∃ o', H' b = some o'
abbrev N0 : Addr → Prop := fun _ => False
section
variable {M M' : Addr → Prop} {F H F0 H0 F1 H1 F2 H2 F' H' : Hp} {a b p : Addr} {o u : HO} {xs : List V} {kvs : List (Key × V)}
theorem Sub.l (s : Sub F H) (h : F a = some (.lst xs)) : H a = some (.lst xs) := by
  rcases s a _ h with q | ⟨⟨_, q⟩, _⟩
  · exact q
  · cases q
theorem Sub.t (s : Sub F H) (h : F a = some (.tup xs)) : H a = some (.tup xs) := by
  rcases s a _ h with q | ⟨⟨_, q⟩, _⟩
  · exact q
  · cases q
theorem Sub.i {C dx : Addr} {fs : List (Str × V)} (s : Sub F H) (h : F a = some (.ins C dx fs)) : H a = some (.ins C dx fs) := by
  rcases s a _ h with q | ⟨⟨_, q⟩, _⟩
  · exact q
  · cases q
theorem Sub.d (s : Sub F H) (h : F a = some (.dK kvs)) : Rd H a (.dK kvs) := by
  rcases s a _ h with q | ⟨_, ob, q⟩
  · exact .inl q
  · exact .inr ⟨ob, q⟩
theorem Sub.any (s : Sub F H) (h : F a = some o) : ∃ o', H a = some o' := by
  rcases s a _ h with q | ⟨_, ob, q⟩
  · exact ⟨_, q⟩
  · exact ⟨_, q⟩
theorem Sub.free (s : Sub F H) (h : H a = none) : F a = none := by
  cases e : F a with
  | none => rfl
  | some o =>
    obtain ⟨o', q⟩ := s.any e
    rw [h] at q
    cases q
theorem Sub.ne (s : Sub F H) (h : F a = some o) (n : F b = none) : a ≠ b := fun e => by
  rw [e, n] at h
  cases h
theorem Mv.self (s : Sub F H) : Mv M F H F H := ⟨fun _ _ h => h, s, fun _ _ _ h => h, fun _ _ _ _ => rfl, fun _ o h => ⟨o, h⟩⟩
theorem Mv.step (g : Mv M' F1 H1 F2 H2) (c : ∀ a, M' a → M a ∨ H0 a = none) (r : Mv M F0 H0 F1 H1) : Mv M F0 H0 F2 H2 := by
  have nm : ∀ b o, ¬ M b → H0 b = some o → ¬ M' b := fun b o n h m => by
    rcases c b m with q | q
    · exact n q
    · rw [h] at q
      cases q
  refine ⟨fun b o h => g.ext b o (r.ext b o h), g.sub, fun b o n h => g.kp b o (nm b o n h) (r.kp b o n h), fun b o n h => ?_, fun b o h => ?_⟩
  · rw [g.fr b o (nm b o n h) (r.kp b o n h), r.fr b o n h]
  · obtain ⟨o1, h1⟩ := r.al b o h
    exact g.al b o1 h1
theorem Mv.fresh (g : Mv M F H F' H') (h : H' a = none) : H a = none := by
  cases e : H a with
  | none => rfl
  | some o =>
    obtain ⟨o', q⟩ := g.al a o e
    rw [h] at q
    cases q
/-- a look-up stays -/
theorem Mv.app (g : Mv M F H F' H') (h : F a = some o) : F' a = some o := g.ext a o h
/-- a new object, frozen at once -/
theorem mv_new (s : Sub F H) (hp : H p = none) : Mv N0 F H (upd F p o) (upd H p o) := by
  have np : ∀ b u, H b = some u → b ≠ p := fun b u h e => by
    rw [e, hp] at h
    cases h
  refine ⟨fun b u h => ?_, fun b u h => ?_, fun b u _ h => ?_, fun b u _ h => ?_, fun b u h => ?_⟩
  · rw [upd_ne (ne_of_none h (s.free hp))]
    exact h
  · by_cases e : b = p
    · rw [e] at h ⊢
      rw [upd_same] at h
      rw [upd_same]
      exact .inl h
    · rw [upd_ne e] at h
      rw [upd_ne e]
      exact s b u h
  · rw [upd_ne (np b u h)]
    exact h
  · rw [upd_ne (np b u h)]
  · exact ⟨u, by rw [upd_ne (np b u h)]; exact h⟩
/-- a new object, not frozen -/
theorem mv_newV (s : Sub F H) (hp : H p = none) : Mv N0 F H F (upd H p o) := by
  have np : ∀ b u, H b = some u → b ≠ p := fun b u h e => by
    rw [e, hp] at h
    cases h
  refine ⟨fun b u h => h, fun b u h => ?_, fun b u _ h => ?_, fun b u _ h => rfl, fun b u h => ?_⟩
  · rw [upd_ne (ne_of_none h (s.free hp))]
    exact s b u h
  · rw [upd_ne (np b u h)]
    exact h
  · exact ⟨u, by rw [upd_ne (np b u h)]; exact h⟩
/-- an unfrozen object is written -/
theorem mv_set (s : Sub F H) (hp : F p = none) : Mv (fun a => a = p) F H F (upd H p o) := by
  refine ⟨fun b u h => h, fun b u h => ?_, fun b u n h => ?_, fun b u _ h => rfl, fun b u h => ?_⟩
  · rw [upd_ne (ne_of_none h hp)]
    exact s b u h
  · rw [upd_ne n]
    exact h
  · by_cases e : b = p
    · exact ⟨o, by rw [e, upd_same]⟩
    · exact ⟨u, by rw [upd_ne e]; exact h⟩
/-- an unfrozen object is frozen -/
theorem freeze (s : Sub F H) (hF : F p = none) (hH : H p = some o) : ∃ F', Mv (fun a => a = p) F H F' H ∧ F' p = some o := by
  refine ⟨upd F p o, ⟨fun b u h => ?_, fun b u h => ?_, fun b u _ h => h, fun b u n h => ?_, fun b u h => ⟨u, h⟩⟩, upd_same⟩
  · rw [upd_ne (ne_of_none h hF)]
    exact h
  · by_cases e : b = p
    · rw [e, upd_same] at h
      rw [e, hH]
      exact .inl h
    · rw [upd_ne e] at h
      exact s b u h
  · rw [upd_ne n]
/-- what stood is kept through a lock -/
theorem Mv.unlock {od : Obj} (g : Mv M F (upd H p (.frz od u)) F' H') (hH : H p = some u) (hF : F p = none ∨ F p = some u) (hM : ¬ M p) : Mv M F H F' (upd H' p u) := by
  refine ⟨g.ext, fun b o h => ?_, fun b o n h => ?_, fun b o n h => ?_, fun b o h => ?_⟩
  · by_cases e : b = p
    · subst e
      have q := g.fr b _ hM upd_same
      rcases hF with z | z
      · rw [q, z] at h
        cases h
      · rw [q, z] at h
        rw [upd_same]
        exact .inl h
    · rw [upd_ne e]
      exact g.sub b o h
  · by_cases e : b = p
    · subst e
      rw [upd_same]
      exact hH.symm.trans h
    · rw [upd_ne e]
      exact g.kp b o n (by rw [upd_ne e]; exact h)
  · by_cases e : b = p
    · subst e
      exact g.fr b _ n upd_same
    · exact g.fr b o n (by rw [upd_ne e]; exact h)
  · by_cases e : b = p
    · subst e
      exact ⟨u, upd_same⟩
    · rw [upd_ne e]
      exact g.al b o (by rw [upd_ne e]; exact h)
theorem sub_lock {od : Obj} (s : Sub F H) (hF : F p = none ∨ F p = some (.dK kvs)) : Sub F (upd H p (.frz od (.dK kvs))) := fun b o h => by
  by_cases e : b = p
  · subst e
    rcases hF with z | z
    · rw [z] at h
      cases h
    · rw [z] at h
      cases h
      exact .inr ⟨⟨_, rfl⟩, od, upd_same⟩
  · rw [upd_ne e]
    exact s b o h
end
/-! ### short questions -/
section
variable {σ : St} {F H H1 : Hp} {Q : VK} {QB : Bool → Hp → Prop} {v x y : V} {ta tb te : TE} {r : R2} {A B : Prop} {b : Bool}
theorem z_var {i : Nat} (h : σ[i]? = some (some v)) (q : Q v H) : tVar i σ H Q := ⟨v, h, q⟩
theorem z_c (q : Q v H) : tC v σ H Q := q
theorem z_op (q : ta σ H fun x H1 => tb σ H1 fun y H2 => r x y H2 Q) : tOp r ta tb σ H Q := q
theorem z_un {r : V → Hp → VK → Prop} (q : ta σ H fun x H1 => r x H1 Q) : tUn r ta σ H Q := q
theorem z_nil {Q : List V → Hp → Prop} (q : Q [] H) : tNil σ H Q := q
theorem z_cons {tr : TA} {Q : List V → Hp → Prop} (q : ta σ H fun x H1 => tr σ H1 fun xs H2 => Q (x :: xs) H2) : tCons ta tr σ H Q := q
theorem z_call {t : TA} {sp : Sp} {dvs : List V} {E : XK} (q : t σ H fun vs H1 => sp (vs ++ dvs) H1 Q E) : tCall sp dvs E t σ H Q := q
theorem z_cb {t : TA} {r : List V → Hp → VK → Prop} (q : t σ H fun vs H1 => r vs H1 Q) : tCB r t σ H Q := q
theorem z_ife {t : TT} (q : t σ H fun c H1 => if c = true then ta σ H1 Q else tb σ H1 Q) : tIf t ta tb σ H Q := q
theorem z_test (q : te σ H fun x H1 => ∃ k, x = .bl k ∧ QB k H1) : tTest te σ H QB := q
theorem z_tB (q : te σ H fun x H1 => ∃ k, x = .bl k ∧ QB k H1) : tB te σ H QB := q
theorem z_bl {R : Bool → Prop} (q : R b) : ∃ k, V.bl b = .bl k ∧ R k := ⟨b, rfl, q⟩
theorem z_and {t u : TT} (q : t σ H fun c H1 => if c = true then u σ H1 QB else QB false H1) : tAnd t u σ H QB := q
theorem z_or {t u : TT} (q : t σ H fun c H1 => if c = true then QB true H1 else u σ H1 QB) : tOr t u σ H QB := q
theorem z_not {t : TT} (q : t σ H fun c H1 => QB (!c) H1) : tNot t σ H QB := q
theorem z_andV (q : ta σ H fun x H1 => ∃ c, x = .bl c ∧ if c = true then tb σ H1 Q else Q (.bl false) H1) : tAndV ta tb σ H Q := q
theorem z_orV (q : ta σ H fun x H1 => ∃ c, x = .bl c ∧ if c = true then Q (.bl true) H1 else tb σ H1 Q) : tOrV ta tb σ H Q := q
theorem z_notV (q : ta σ H fun x H1 => ∃ c, x = .bl c ∧ Q (.bl (!c)) H1) : tNotV ta σ H Q := q
theorem z_isN (q : ta σ H fun x H1 => Q (.bl (decide (x = .non))) H1) : tIsN ta σ H Q := q
theorem z_notN (q : ta σ H fun x H1 => Q (.bl (!decide (x = .non))) H1) : tNotN ta σ H Q := q
theorem z_yes {Q : Bool → Hp → Prop} (q : Q true H) : tYes σ H Q := q
/-! tests -/
theorem z_T (h : A) : if true = true then A else B := by
  rw [if_pos rfl]
  exact h
theorem z_F (h : B) : if false = true then A else B := by
  rw [if_neg Bool.false_ne_true]
  exact h
theorem z_ite (h1 : b = true → A) (h2 : b = false → B) : if b = true then A else B := by
  cases b with
  | true => exact z_T (h1 rfl)
  | false => exact z_F (h2 rfl)
theorem z_dec {p : Prop} [Decidable p] (h1 : p → A) (h2 : ¬ p → B) : if decide p = true then A else B := z_ite (fun h => h1 (of_decide_eq_true h)) fun h => h2 (of_decide_eq_false h)
theorem z_ndec {p : Prop} [Decidable p] (h1 : ¬ p → A) (h2 : p → B) : if (!decide p) = true then A else B := z_ite (fun h => h1 (fun z => by rw [decide_eq_true z] at h; cases h)) fun h => h2 (by
  cases e : decide p with
  | true => exact of_decide_eq_true e
  | false =>
    rw [e] at h
    cases h)
/-! statements -/
variable {nx bk ct : St → Hp → Prop} {rt : VK} {t u : TS} {g : TG}
theorem z_seq (q : t ⟨u ⟨nx, rt, bk, ct⟩, rt, bk, ct⟩ σ H) : tSeq t u ⟨nx, rt, bk, ct⟩ σ H := q
theorem z_seqJ (I : L2.St → Hp → Prop) (h2 : ∀ σ' H', I σ' H' → u ⟨nx, rt, bk, ct⟩ σ' H') (h1 : ∀ N : L2.St → Hp → Prop, (∀ σ' H', I σ' H' → N σ' H') → t ⟨N, rt, bk, ct⟩ σ H) : tSeq t u ⟨nx, rt, bk, ct⟩ σ H := h1 _ h2
theorem is_si {c : TT} {v : TS} {D : Ends} (h : tSeq (tIfS c t u) v D σ H) : tSeq (tIfS c t u) v D σ H := h
theorem z_next (q : nx σ H) : tNext ⟨nx, rt, bk, ct⟩ σ H := q
theorem z_brk (q : bk σ H) : tBreak ⟨nx, rt, bk, ct⟩ σ H := q
theorem z_cont (q : ct σ H) : tCont ⟨nx, rt, bk, ct⟩ σ H := q
theorem z_asg (q : te σ H fun x H1 => g x σ H1 nx) : tAsg te g ⟨nx, rt, bk, ct⟩ σ H := q
theorem z_name {i : Nat} {Q : St → Hp → Prop} (q : Q (σ.set i (some v)) H) : gName i v σ H Q := q
theorem z_drop (q : te σ H fun _ H1 => nx σ H1) : tDrop te ⟨nx, rt, bk, ct⟩ σ H := q
theorem z_ret (q : te σ H rt) : tRet te ⟨nx, rt, bk, ct⟩ σ H := q
theorem z_retN (q : rt .non H) : tRetN ⟨nx, rt, bk, ct⟩ σ H := q
theorem z_if {c : TT} (q : c σ H fun b H1 => if b = true then t ⟨nx, rt, bk, ct⟩ σ H1 else u ⟨nx, rt, bk, ct⟩ σ H1) : tIfS c t u ⟨nx, rt, bk, ct⟩ σ H := q
theorem z_gnil {Q : St → Hp → Prop} (q : Q σ H) : gNil [] σ H Q := ⟨rfl, q⟩
theorem z_gcons {g : TG} {gs : List V → St → Hp → (St → Hp → Prop) → Prop} {vs : List V} {Q : St → Hp → Prop} (q : g v σ H fun σ' H' => gs vs σ' H' Q) : gCons g gs (v :: vs) σ H Q := ⟨v, vs, rfl, q⟩
theorem z_gtup {K : PySem.W.Frag} {n : Nat} {gs : List V → St → Hp → (St → Hp → Prop) → Prop} {a : Addr} {xs : List V} {Q : St → Hp → Prop} (s : Sub F H) (h : F a = some (.tup xs)) (hn : xs.length = n) (q : gs xs σ H Q) : gTup K n gs (.ref a) σ H Q := ⟨a, xs, rfl, SqT.of (s.t h), hn, q⟩
/-- a new object -/
def New (H H' : Hp) (p : Addr) (o : HO) : Prop := H p = none ∧ H' = upd H p o
theorem New.fz {p : Addr} {o : HO} {H' : Hp} (n : New H H' p o) (s : Sub F H) : ∃ F', Mv N0 F H F' H' ∧ F' p = some o := by
  obtain ⟨h, rfl⟩ := n
  exact ⟨_, mv_new s h, upd_same⟩
theorem New.vo {p : Addr} {o : HO} {H' : Hp} (n : New H H' p o) (s : Sub F H) : ∃ F', Mv N0 F H F' H' ∧ F' p = none ∧ H p = none ∧ H' p = some o := by
  obtain ⟨h, rfl⟩ := n
  exact ⟨_, mv_newV s h, s.free h, h, upd_same⟩
theorem new_all {o : HO} {R : V → Hp → Prop} (q : ∀ p H', New H H' p o → R (.ref p) H') : ∀ p, H p = none → R (.ref p) (upd H p o) := fun p hp => q p _ ⟨hp, rfl⟩
theorem new_iff {o : HO} {R : V → Hp → Prop} : (∀ p H', New H H' p o → R (.ref p) H') = (∀ p, H p = none → R (.ref p) (upd H p o)) :=
  propext ⟨fun q => new_all q, fun q p H' n => by
    obtain ⟨h, rfl⟩ := n
    exact q p h⟩
theorem z_tup {t : TA} (q : t σ H fun xs H1 => xs.length ≤ sizeLine ∧ ∀ p H', New H1 H' p (.tup xs) → Q (.ref p) H') : tTup t σ H Q := by
  simp only [new_iff] at q
  exact q
theorem z_lst {t : TA} (q : t σ H fun xs H1 => xs.length ≤ sizeLine ∧ ∀ p H', New H1 H' p (.lst xs) → Q (.ref p) H') : tLst t σ H Q := by
  simp only [new_iff] at q
  exact q
theorem z_newT {xs : List V} {R : Addr → Hp → Prop} (s : Sub F H) (hl : xs.length ≤ sizeLine) (q : ∀ p F' H', Mv N0 F H F' H' → F' p = some (.tup xs) → R p H') : xs.length ≤ sizeLine ∧ ∀ p H', New H H' p (.tup xs) → R p H' :=
  ⟨hl, fun p H' n => by
    obtain ⟨F', g, h⟩ := n.fz s
    exact q p F' H' g h⟩
theorem z_newL {xs : List V} {R : Addr → Hp → Prop} (s : Sub F H) (hl : xs.length ≤ sizeLine) (q : ∀ p F' H', Mv N0 F H F' H' → F' p = some (.lst xs) → R p H') : xs.length ≤ sizeLine ∧ ∀ p H', New H H' p (.lst xs) → R p H' :=
  ⟨hl, fun p H' n => by
    obtain ⟨F', g, h⟩ := n.fz s
    exact q p F' H' g h⟩
theorem z_newL1 {x : V} {xs : List V} {R : Addr → Hp → Prop} (s : Sub F H) (hl : (x :: xs).length ≤ sizeLine) (q : ∀ p F' H', Mv N0 F H F' H' → F' p = some (.lst (x :: xs)) → R p H') : (x :: xs).length ≤ sizeLine ∧ ∀ p H', New H H' p (.lst (x :: xs)) → R p H' := z_newL s hl q
theorem z_newLV {xs : List V} {R : Addr → Hp → Prop} (s : Sub F H) (hl : xs.length ≤ sizeLine) (q : ∀ p F' H', Mv N0 F H F' H' → F' p = none → H p = none → H' p = some (.lst xs) → R p H') : xs.length ≤ sizeLine ∧ ∀ p H', New H H' p (.lst xs) → R p H' :=
  ⟨hl, fun p H' n => by
    obtain ⟨F', g, h1, h2, h3⟩ := n.vo s
    exact q p F' H' g h1 h2 h3⟩
theorem z_dnew (q : ∀ p H', New H H' p (.dK []) → Q (.ref p) H') : tDNewK σ H Q := new_all q
end
end U
/-! U1: == and != of two values of the same data: no look at the texts' code points. -/
namespace U
open PySem PySem.Spec PySem.Calls L2 PySem.SeqAt
theorem rng_true (n : Nat) : ((List.range n).all fun _ => true) = true := List.all_eq_true.mpr fun _ _ => rfl
theorem dpAll_len {K : PySem.W.Frag} {H : Hp} : ∀ (ds : List PyData) (xs : List V), DpAll K H xs ds → xs.length = ds.length
  | [], _, h => by cases h; rfl
  | d :: ds, _, h => by
    cases h with
    | cons _ h2 => rw [List.length_cons, List.length_cons, dpAll_len ds _ h2]
section
variable {X : Cx} {pins : List (Addr × Obj)} {σ : L2.St} {H : Hp} {s : Shared}
mutual
theorem same_at (I : Inv X pins σ H s) : ∀ (d : PyData) (x y : V) (v u : Value) (A : Around), Dp X.K H x d → Dp X.K H y d → RelV x v → RelV y u → A.units + d.depth < cLine → EqAt A s v u true
  | .none, _, _, _, _, A, hx, hy, rx, ry, _ => by
    cases hx; cases hy; cases rx; cases ry
    exact EqAt.same _
  | .bool b, _, _, _, _, A, hx, hy, rx, ry, _ => by
    cases hx; cases hy; cases rx; cases ry
    exact EqAt.same _
  | .int i, _, _, _, _, A, hx, hy, rx, ry, _ => by
    cases hx; cases hy
    obtain ⟨t, rfl⟩ := rx
    obtain ⟨t', rfl⟩ := ry
    have q := EqAt.int_int (A := A) (s := s) i t i t'
    rw [beq_self_eq_true] at q
    exact q
  | .str z, _, _, _, _, A, hx, hy, rx, ry, _ => by
    cases hx; cases hy
    obtain ⟨t, rfl⟩ := rx
    obtain ⟨t', rfl⟩ := ry
    have q := EqAt.str_str (A := A) (s := s) z t z t'
    rw [beq_self_eq_true] at q
    exact q
  | .list ds, _, _, _, _, A, hx, hy, rx, ry, hu => by
    cases hx with
    | @lst a xs _ h1 h2 =>
      cases hy with
      | @lst b ys _ k1 k2 =>
        cases rx; cases ry
        rw [PyData.depth] at hu
        obtain ⟨its, r1, p1, _⟩ := I.list h1
        obtain ⟨its', r2, p2, _⟩ := I.list k1
        by_cases e : a = b
        · rw [e]
          exact EqAt.same _
        · have hsz : its.toArray.size = its'.toArray.size := by
            rw [List.size_toArray, List.size_toArray, ← r1.length, ← r2.length, dpAll_len ds _ h2, dpAll_len ds _ k2]
          have q := RcAt.lists (A := A) (e := fun _ => true) p1.isList p2.isList hsz (by omega) fun j j1 j2 => by
            have z := same_all I ds xs ys its its' A.in1 h2 k2 r1 r2 (by show A.units + 1 + _ < _; omega) j (by simpa using j1) (by simpa using j2)
            simpa using z
          rw [rng_true] at q
          exact EqAt.of_refs e q
  | .tuple ds, _, _, _, _, A, hx, hy, rx, ry, hu => by
    cases hx with
    | @tup a xs _ h1 h2 =>
      cases hy with
      | @tup b ys _ k1 k2 =>
        cases rx; cases ry
        rw [PyData.depth] at hu
        obtain ⟨its, r1, p1, _⟩ := I.tuple h1
        obtain ⟨its', r2, p2, _⟩ := I.tuple k1
        by_cases e : a = b
        · rw [e]
          exact EqAt.same _
        · have hsz : its.toArray.size = its'.toArray.size := by
            rw [List.size_toArray, List.size_toArray, ← r1.length, ← r2.length, dpAll_len ds _ h2, dpAll_len ds _ k2]
          have q := RcAt.tuples (A := A) (e := fun _ => true) p1 p2 (by omega) fun j j1 j2 => by
            have z := same_all I ds xs ys its its' A.in1 h2 k2 r1 r2 (by show A.units + 1 + _ < _; omega) j (by simpa using j1) (by simpa using j2)
            simpa using z
          rw [rng_true, hsz, beq_self_eq_true, Bool.and_self] at q
          exact EqAt.of_refs e q
  | .dict _, _, _, _, _, _, hx, _, _, _, _ => by cases hx
theorem same_all (I : Inv X pins σ H s) : ∀ (ds : List PyData) (xs ys : List V) (vs us : List Value) (A : Around), DpAll X.K H xs ds → DpAll X.K H ys ds → Vals xs vs → Vals ys us → A.units + PyData.depthAll ds < cLine →
    ∀ j (h1 : j < vs.length) (h2 : j < us.length), EqAt A s vs[j] us[j] true
  | [], _, _, _, _, _, hx, hy, rx, ry, _, j, h1, _ => by
    cases hx; cases rx
    exact absurd h1 (Nat.not_lt_zero _)
  | d :: ds, _, _, _, _, A, hx, hy, rx, ry, hu, j, h1, h2 => by
    rw [PyData.depthAll] at hu
    cases hx with
    | cons x1 x2 =>
      cases hy with
      | cons y1 y2 =>
        cases rx with
        | cons a1 a2 =>
          cases ry with
          | cons b1 b2 =>
            cases j with
            | zero => exact same_at I d _ _ _ _ A x1 y1 a1 b1 (by omega)
            | succ j => exact same_all I ds _ _ _ _ A x2 y2 a2 b2 (by omega) j (Nat.lt_of_succ_lt_succ h1) (Nat.lt_of_succ_lt_succ h2)
end
end
/-- lists, tuples of the same data -/
def rEqS (K : PySem.W.Frag) : R2 := fun x y H Q => ∃ a b d, x = .ref a ∧ y = .ref b ∧ Dp K H x d ∧ Dp K H y d ∧ d.depth ≤ 64 ∧ Q (.bl true) H
def rNeS (K : PySem.W.Frag) : R2 := fun x y H Q => ∃ a b d, x = .ref a ∧ y = .ref b ∧ Dp K H x d ∧ Dp K H y d ∧ d.depth ≤ 64 ∧ Q (.bl false) H
section
variable {X : Cx}
theorem same_room {A : Around} {n : Nat} (hu : A.units + 64 < cLine) (h : n + 1 ≤ 64) : A.in1.units + n < cLine := by
  show A.units + 1 + n < cLine
  omega
theorem op_eqS (hu : X.A.units + 64 < cLine) : OpR X (compareOp .Eq) (rEqS X.K) := by
  intro pins s σ H x y v u Q I rx ry h
  obtain ⟨a, b, d, rfl, rfl, hx, hy, hd, q⟩ := h
  cases rx; cases ry
  cases hx with
  | @lst _ xs ds h1 h2 =>
    cases hy with
    | @lst _ ys _ k1 k2 =>
      rw [PyData.depth] at hd
      obtain ⟨its, r1, p1, _⟩ := I.list h1
      obtain ⟨its', r2, p2, _⟩ := I.list k1
      have hsz : its.toArray.size = its'.toArray.size := by
        rw [List.size_toArray, List.size_toArray, ← r1.length, ← r2.length, dpAll_len ds _ h2, dpAll_len ds _ k2]
      have z := RcAt.lists (A := X.A) (e := fun _ => true) p1.isList p2.isList hsz (by omega) fun j j1 j2 => by
        have z := same_all I ds xs ys its its' X.A.in1 h2 k2 r1 r2 (same_room hu hd) j (by simpa using j1) (by simpa using j2)
        simpa using z
      rw [rng_true] at z
      exact z X.prog X.w X.xe _ ⟨.bl true, H, I, rfl, q⟩
  | @tup _ xs ds h1 h2 =>
    cases hy with
    | @tup _ ys _ k1 k2 =>
      rw [PyData.depth] at hd
      obtain ⟨its, r1, p1, _⟩ := I.tuple h1
      obtain ⟨its', r2, p2, _⟩ := I.tuple k1
      have hsz : its.toArray.size = its'.toArray.size := by
        rw [List.size_toArray, List.size_toArray, ← r1.length, ← r2.length, dpAll_len ds _ h2, dpAll_len ds _ k2]
      have z := RcAt.tuples (A := X.A) (e := fun _ => true) p1 p2 (by omega) fun j j1 j2 => by
        have z := same_all I ds xs ys its its' X.A.in1 h2 k2 r1 r2 (same_room hu hd) j (by simpa using j1) (by simpa using j2)
        simpa using z
      rw [rng_true, hsz, beq_self_eq_true, Bool.and_self] at z
      exact z X.prog X.w X.xe _ ⟨.bl true, H, I, rfl, q⟩
theorem op_neS (hu : X.A.units + 64 < cLine) : OpR X (compareOp .NotEq) (rNeS X.K) := by
  intro pins s σ H x y v u Q I rx ry h
  obtain ⟨a, b, d, rfl, rfl, hx, hy, hd, q⟩ := h
  cases rx; cases ry
  cases hx with
  | @lst _ xs ds h1 h2 =>
    cases hy with
    | @lst _ ys _ k1 k2 =>
      rw [PyData.depth] at hd
      obtain ⟨its, r1, p1, _⟩ := I.list h1
      obtain ⟨its', r2, p2, _⟩ := I.list k1
      have hsz : its.toArray.size = its'.toArray.size := by
        rw [List.size_toArray, List.size_toArray, ← r1.length, ← r2.length, dpAll_len ds _ h2, dpAll_len ds _ k2]
      have z := RcNeAt.lists (A := X.A) (e := fun _ => true) p1.isList p2.isList hsz (by omega) fun j j1 j2 => by
        have z := same_all I ds xs ys its its' X.A.in1 h2 k2 r1 r2 (same_room hu hd) j (by simpa using j1) (by simpa using j2)
        simpa using z
      rw [rng_true] at z
      exact z X.prog X.w X.xe _ ⟨.bl false, H, I, rfl, q⟩
  | @tup _ xs ds h1 h2 =>
    cases hy with
    | @tup _ ys _ k1 k2 =>
      rw [PyData.depth] at hd
      obtain ⟨its, r1, p1, _⟩ := I.tuple h1
      obtain ⟨its', r2, p2, _⟩ := I.tuple k1
      have hsz : its.toArray.size = its'.toArray.size := by
        rw [List.size_toArray, List.size_toArray, ← r1.length, ← r2.length, dpAll_len ds _ h2, dpAll_len ds _ k2]
      have z := RcNeAt.tuples (A := X.A) (e := fun _ => true) p1 p2 (by omega) fun j j1 j2 => by
        have z := same_all I ds xs ys its its' X.A.in1 h2 k2 r1 r2 (same_room hu hd) j (by simpa using j1) (by simpa using j2)
        simpa using z
      rw [rng_true, hsz, beq_self_eq_true, Bool.and_self] at z
      exact z X.prog X.w X.xe _ ⟨.bl false, H, I, rfl, q⟩
end
end U
/-! U2: one rule an operation, whatever the kinds; loops and comprehensions over the moves. -/
namespace U
open PySem PySem.Spec PySem.Calls L2
/-! ### operations -/
def rAddS : R2 := fun x y H Q => ∃ i j, x = .str i ∧ y = .str j ∧ i.length + j.length ≤ sizeLine ∧ Q (.str (i ++ j)) H
def rAddU (K : PySem.W.Frag) : R2 := fun x y H Q => rI0 (fun i j => .int (i + j)) x y H Q ∨ rAddS x y H Q ∨ rCat x y H Q ∨ rCatT K x y H Q
def rMulU : R2 := fun x y H Q => rI CMul (fun i j => .int (i * j)) x y H Q ∨ rRep x y H Q
def rEqU (K : PySem.W.Frag) : R2 := fun x y H Q => rEq x y H Q ∨ rEqD K x y H Q ∨ rEqS K x y H Q
def rNeU (K : PySem.W.Frag) : R2 := fun x y H Q => rNe x y H Q ∨ rNeD K x y H Q ∨ rNeS K x y H Q
def rLtS : R2 := fun x y H Q => ∃ i j, x = .str i ∧ y = .str j ∧ Q (.bl (decide (i.cps.toList < j.cps.toList))) H
def rLtU : R2 := fun x y H Q => rI0 (fun i j => .bl (decide (i < j))) x y H Q ∨ rLtS x y H Q
def rInS1 : R2 := fun x y H Q => ∃ (c : Nat) (z : Str), x = .str ⟨#[c]⟩ ∧ y = .str z ∧ Q (.bl (decide (c ∈ z.cps.toList))) H
def rNiS1 : R2 := fun x y H Q => ∃ (c : Nat) (z : Str), x = .str ⟨#[c]⟩ ∧ y = .str z ∧ Q (.bl (!decide (c ∈ z.cps.toList))) H
def rInU (K : PySem.W.Frag) : R2 := fun x y H Q => rIn K false x y H Q ∨ rInS1 x y H Q
def rNiU (K : PySem.W.Frag) : R2 := fun x y H Q => rIn K true x y H Q ∨ rNiS1 x y H Q
section
variable {X : Cx}
theorem uAdd : OpR X (binaryOp .Add) (rAddU X.K) := OpR.or op_add (OpR.or op_add_str (OpR.or op_cat op_catT))
theorem uMul : OpR X (binaryOp .Mult) rMulU := OpR.or op_mul op_rep
theorem uEq (hu : X.A.units + 64 < cLine) : OpR X (compareOp .Eq) (rEqU X.K) := OpR.or op_eq (OpR.or (op_eqD hu) (op_eqS hu))
theorem uNe (hu : X.A.units + 64 < cLine) : OpR X (compareOp .NotEq) (rNeU X.K) := OpR.or op_ne (OpR.or (op_neD hu) (op_neS hu))
theorem uLt : OpR X (compareOp .Lt) rLtU := OpR.or op_lt op_lt_str
theorem uIn : OpR X (compareOp .In) (rInU X.K) := OpR.or op_in_seq op_in_sign
theorem uNi : OpR X (compareOp .NotIn) (rNiU X.K) := OpR.or op_notIn_seq op_notIn_sign
end
section
variable {K : PySem.W.Frag} {σ : L2.St} {F H : Hp} {Q : VK} {v x y : V} {a b : Addr} {xs ys : List V} {i j : Int} {s t : Str}
theorem fz_all {o : HO} {R : V → Hp → Prop} (s : Sub F H) (q : ∀ p F' H', Mv N0 F H F' H' → F' p = some o → R (.ref p) H') : ∀ p, H p = none → R (.ref p) (upd H p o) := fun p hp => q p _ _ (mv_new s hp) upd_same
theorem z_I0 {g : Int → Int → V} (q : Q (g i j) H) : rI0 g (.int i) (.int j) H Q := ⟨i, j, rfl, rfl, q⟩
theorem z_I {C : Int → Int → Prop} {g : Int → Int → V} (c : C i j) (q : Q (g i j) H) : rI C g (.int i) (.int j) H Q := ⟨i, j, rfl, rfl, c, q⟩
theorem z_fdiv (c : 0 < j ∧ j < 1073741824) (q : Q (.int (i / j)) H) : rI CDiv (fun i j => .int (i / j)) (.int i) (.int j) H Q := z_I c q
theorem z_mod (c : 0 < j) (q : Q (.int (i % j)) H) : rI (fun _ j => 0 < j) (fun i j => .int (i % j)) (.int i) (.int j) H Q := z_I c q
theorem z_neg (q : Q (.int (-i)) H) : rU (fun i => .int (-i)) (.int i) H Q := ⟨i, rfl, q⟩
theorem z_addI (q : Q (.int (i + j)) H) : rAddU K (.int i) (.int j) H Q := .inl ⟨i, j, rfl, rfl, q⟩
theorem z_addS (h : s.length + t.length ≤ sizeLine) (q : Q (.str (s ++ t)) H) : rAddU K (.str s) (.str t) H Q := .inr (.inl ⟨s, t, rfl, rfl, h, q⟩)
theorem z_addL (h1 : H a = some (.lst xs)) (h2 : H b = some (.lst ys)) (hl : xs.length + ys.length ≤ sizeLine) (sb : Sub F H) (q : ∀ p F' H', Mv N0 F H F' H' → F' p = some (.lst (xs ++ ys)) → Q (.ref p) H') : rAddU K (.ref a) (.ref b) H Q :=
  .inr (.inr (.inl ⟨a, b, xs, ys, rfl, rfl, h1, h2, hl, fz_all sb q⟩))
theorem z_mulI (c : CMul i j) (q : Q (.int (i * j)) H) : rMulU (.int i) (.int j) H Q := .inl ⟨i, j, rfl, rfl, c, q⟩
theorem z_rep (h : H a = some (.lst xs)) (h1 : -(2 ^ 63) ≤ j) (h2 : j < 2 ^ 63) (hl : xs.length * j.toNat ≤ sizeLine) (sb : Sub F H) (q : ∀ p F' H', Mv N0 F H F' H' → F' p = some (.lst (List.replicate j.toNat xs).flatten) → Q (.ref p) H') : rMulU (.ref a) (.int j) H Q :=
  .inr ⟨a, j, xs, rfl, rfl, h, h1, h2, hl, fz_all sb q⟩
theorem z_ltI (q : Q (.bl (decide (i < j))) H) : rLtU (.int i) (.int j) H Q := .inl ⟨i, j, rfl, rfl, q⟩
theorem z_ltS (q : Q (.bl (decide (s.cps.toList < t.cps.toList))) H) : rLtU (.str s) (.str t) H Q := .inr ⟨s, t, rfl, rfl, q⟩
theorem z_eq (h : scal x y = true) (q : Q (.bl (decide (x = y))) H) : rEqU K x y H Q := .inl ⟨h, q⟩
theorem z_eqI (q : Q (.bl (decide (i = j))) H) : rEqU K (.int i) (.int j) H Q := .inl ⟨rfl, by rw [dec_int, Bool.beq_eq_decide_eq]; exact q⟩
theorem z_eqS (q : Q (.bl (decide (s = t))) H) : rEqU K (.str s) (.str t) H Q := .inl ⟨rfl, by rw [dec_str, Bool.beq_eq_decide_eq]; exact q⟩
theorem z_neI (q : Q (.bl (!decide (i = j))) H) : rNeU K (.int i) (.int j) H Q := .inl ⟨rfl, by rw [dec_int, Bool.beq_eq_decide_eq]; exact q⟩
theorem z_neS (q : Q (.bl (!decide (s = t))) H) : rNeU K (.str s) (.str t) H Q := .inl ⟨rfl, by rw [dec_str, Bool.beq_eq_decide_eq]; exact q⟩
theorem z_eqD {d e : PyData} (h1 : Dp K H x d) (h2 : Dp K H y e) (s1 : SeqAt.shaped d = true) (s2 : SeqAt.shaped e = true) (q : Q (.bl (PyData.eqv d e)) H) : rEqU K x y H Q := .inr (.inl ⟨d, e, h1, h2, s1, s2, q⟩)
theorem z_eqSame {d : PyData} (h1 : Dp K H (.ref a) d) (h2 : Dp K H (.ref b) d) (hd : d.depth ≤ 64) (q : Q (.bl true) H) : rEqU K (.ref a) (.ref b) H Q := .inr (.inr ⟨a, b, d, rfl, rfl, h1, h2, hd, q⟩)
theorem z_neSame {d : PyData} (h1 : Dp K H (.ref a) d) (h2 : Dp K H (.ref b) d) (hd : d.depth ≤ 64) (q : Q (.bl false) H) : rNeU K (.ref a) (.ref b) H Q := .inr (.inr ⟨a, b, d, rfl, rfl, h1, h2, hd, q⟩)
theorem z_neD {d e : PyData} (h1 : Dp K H x d) (h2 : Dp K H y e) (s1 : SeqAt.shaped d = true) (s2 : SeqAt.shaped e = true) (q : Q (.bl (!PyData.eqv d e)) H) : rNeU K x y H Q := .inr (.inl ⟨d, e, h1, h2, s1, s2, q⟩)
theorem z_inT (h : H a = some (.tup xs)) (f : flatV x = true) (fs : xs.all flatV = true) (q : Q (.bl (inV x xs)) H) : rInU K x (.ref a) H Q := .inl ⟨a, xs, rfl, .inr (SqT.of h), f, fs, q⟩
theorem z_inL (h : H a = some (.lst xs)) (f : flatV x = true) (fs : xs.all flatV = true) (q : Q (.bl (inV x xs)) H) : rInU K x (.ref a) H Q := .inl ⟨a, xs, rfl, .inl (SqL.of h), f, fs, q⟩
/-! built-ins by name -/
def rLenU (K : PySem.W.Frag) : List V → Hp → VK → Prop := fun xs H Q => (∃ x n, xs = [x] ∧ LenV K x H n ∧ Q (.int n) H) ∨ ∃ a kvs, xs = [V.ref a] ∧ Rd H a (.dK kvs) ∧ Q (.int kvs.length) H
theorem z_lenL (h : H a = some (.lst xs)) (q : Q (.int xs.length) H) : rLenU K [.ref a] H Q := .inl ⟨_, xs.length, rfl, .inl ⟨xs, SqL.of h, rfl⟩, q⟩
theorem z_lenT (h : H a = some (.tup xs)) (q : Q (.int xs.length) H) : rLenU K [.ref a] H Q := .inl ⟨_, xs.length, rfl, .inr ⟨xs, SqT.of h, rfl⟩, q⟩
theorem z_lenS (h : s.length ≤ sizeLine) (q : Q (.int s.length) H) : rLenU K [.str s] H Q := .inl ⟨_, s.length, rfl, ⟨h, rfl⟩, q⟩
theorem z_lenD {kvs : List (Key × V)} (h : Rd H a (.dK kvs)) (q : Q (.int kvs.length) H) : rLenU K [.ref a] H Q := .inr ⟨a, kvs, rfl, h, q⟩
theorem z_len1 (h : SqL K H a xs) (q : Q (.int xs.length) H) : rLenU K [.ref a] H Q := .inl ⟨_, xs.length, rfl, .inl ⟨xs, h, rfl⟩, q⟩
def rIntU : List V → Hp → VK → Prop := fun xs H Q => (∃ i, xs = [.int i] ∧ Q (.int i) H) ∨ ∃ k, xs = [.bl k] ∧ Q (.int (if k then 1 else 0)) H
theorem z_int (q : Q (.int i) H) : rIntU [.int i] H Q := .inl ⟨i, rfl, q⟩
theorem z_intB {k : Bool} (q : Q (.int (if k then 1 else 0)) H) : rIntU [.bl k] H Q := .inr ⟨k, rfl, q⟩
def rAbsU : List V → Hp → VK → Prop := fun xs H Q => ∃ i, xs = [.int i] ∧ Q (.int (if i < 0 then -i else i)) H
theorem z_abs (q : Q (.int (if i < 0 then -i else i)) H) : rAbsU [.int i] H Q := ⟨i, rfl, q⟩
def rMinU : List V → Hp → VK → Prop := fun xs H Q => ∃ i j, xs = [.int i, .int j] ∧ Q (.int (if j < i then j else i)) H
theorem z_min (q : Q (.int (if j < i then j else i)) H) : rMinU [.int i, .int j] H Q := ⟨i, j, rfl, q⟩
def rMaxU : List V → Hp → VK → Prop := fun xs H Q => ∃ i j, xs = [.int i, .int j] ∧ Q (.int (if j > i then j else i)) H
theorem z_max (q : Q (.int (if j > i then j else i)) H) : rMaxU [.int i, .int j] H Q := ⟨i, j, rfl, q⟩
def rListU (K : PySem.W.Frag) : List V → Hp → VK → Prop := fun xs H Q => ∃ p ys, xs = [.ref p] ∧ (SqL K H p ys ∨ SqT K H p ys) ∧ ∀ l, H l = none → Q (.ref l) (upd H l (.lst ys))
theorem z_listL (h : SqL K H a xs) (sb : Sub F H) (q : ∀ p F' H', Mv N0 F H F' H' → F' p = some (.lst xs) → Q (.ref p) H') : rListU K [.ref a] H Q := ⟨a, xs, rfl, .inl h, fz_all sb q⟩
theorem z_listT (h : H a = some (.tup xs)) (sb : Sub F H) (q : ∀ p F' H', Mv N0 F H F' H' → F' p = some (.lst xs) → Q (.ref p) H') : rListU K [.ref a] H Q := ⟨a, xs, rfl, .inr (SqT.of h), fz_all sb q⟩
theorem bb_len : bootBuiltins "len" = some (.builtin "len") := by decide +kernel
theorem bb_int : bootBuiltins "int" = some (.type "int") := by decide +kernel
theorem bb_abs : bootBuiltins "abs" = some (.builtin "abs") := by decide +kernel
theorem bb_min : bootBuiltins "min" = some (.builtin "min") := by decide +kernel
theorem bb_max : bootBuiltins "max" = some (.builtin "max") := by decide +kernel
theorem bb_list : bootBuiltins "list" = some (.type "list") := by decide +kernel
theorem bb_any : bootBuiltins "any" = some (.builtin "any") := by decide +kernel
theorem bb_all : bootBuiltins "all" = some (.builtin "all") := by decide +kernel
theorem bb_sum : bootBuiltins "sum" = some (.builtin "sum") := by decide +kernel
theorem bb_sorted : bootBuiltins "sorted" = some (.builtin "sorted") := by decide +kernel
theorem bb_isinstance : bootBuiltins "isinstance" = some (.builtin "isinstance") := by decide +kernel
theorem bb_tuple : bootBuiltins "tuple" = some (.type "tuple") := by decide +kernel
end
section
variable {X : Cx} {e : Expr} {es : List Expr} {ta : TA} {p pos : Pos}
theorem len_dR : CallR X (.builtin "len") (fun xs H Q => ∃ a kvs, xs = [V.ref a] ∧ Rd H a (.dK kvs) ∧ Q (.int kvs.length) H) := by
  intro pins s σ H xs us Q I r h
  obtain ⟨a, kvs, rfl, ha, q⟩ := h
  obtain ⟨u, rfl, ru⟩ := vals1 r
  cases ru
  exact d_len I ha fun t s' I' => ⟨.int kvs.length, H, I', ⟨t, rfl⟩, q⟩
theorem ub_len (hm : X.mg "len" = none) (h : PA X (e :: es) ta) (hg : Gl X "len" := by rfl) (he : starEach (e :: es) X.env = (false, eval e X.env) :: starEach es X.env := by rfl) (hpl : ((backTo pos (starEach es X.env)).any fun x => x.fst) = false := by rfl) : PE X (.Call (.Name "len" p) (e :: es) [] pos) (tCB (rLenU X.K) ta) := pe_callB (CallR.or call_len len_dR) hg hm bb_len h (by decide) (by decide) he hpl
theorem ub_int (hm : X.mg "int" = none) (h : PA X (e :: es) ta) (hg : Gl X "int" := by rfl) (he : starEach (e :: es) X.env = (false, eval e X.env) :: starEach es X.env := by rfl) (hpl : ((backTo pos (starEach es X.env)).any fun x => x.fst) = false := by rfl) : PE X (.Call (.Name "int" p) (e :: es) [] pos) (tCB rIntU ta) := pe_callTy call_int1 hg hm bb_int h (by decide) (by decide) he hpl
theorem ub_abs (hm : X.mg "abs" = none) (h : PA X (e :: es) ta) (hg : Gl X "abs" := by rfl) (he : starEach (e :: es) X.env = (false, eval e X.env) :: starEach es X.env := by rfl) (hpl : ((backTo pos (starEach es X.env)).any fun x => x.fst) = false := by rfl) : PE X (.Call (.Name "abs" p) (e :: es) [] pos) (tCB rAbsU ta) := pe_callB call_abs hg hm bb_abs h (by decide) (by decide) he hpl
theorem ub_min (hm : X.mg "min" = none) (h : PA X (e :: es) ta) (hc : X.calm = true := by rfl) (hg : Gl X "min" := by rfl) (he : starEach (e :: es) X.env = (false, eval e X.env) :: starEach es X.env := by rfl) (hpl : ((backTo pos (starEach es X.env)).any fun x => x.fst) = false := by rfl) : PE X (.Call (.Name "min" p) (e :: es) [] pos) (tCB rMinU ta) := pe_callB (call_min2 hc) hg hm bb_min h (by decide) (by decide) he hpl
theorem ub_max (hm : X.mg "max" = none) (h : PA X (e :: es) ta) (hc : X.calm = true := by rfl) (hg : Gl X "max" := by rfl) (he : starEach (e :: es) X.env = (false, eval e X.env) :: starEach es X.env := by rfl) (hpl : ((backTo pos (starEach es X.env)).any fun x => x.fst) = false := by rfl) : PE X (.Call (.Name "max" p) (e :: es) [] pos) (tCB rMaxU ta) := pe_callB (call_max2 hc) hg hm bb_max h (by decide) (by decide) he hpl
theorem ub_list (hm : X.mg "list" = none) (h : PA X (e :: es) ta) (hg : Gl X "list" := by rfl) (he : starEach (e :: es) X.env = (false, eval e X.env) :: starEach es X.env := by rfl) (hpl : ((backTo pos (starEach es X.env)).any fun x => x.fst) = false := by rfl) : PE X (.Call (.Name "list" p) (e :: es) [] pos) (tCB (rListU X.K) ta) := pe_callTy call_list_of hg hm bb_list h (by decide) (by decide) he hpl
theorem ub_any (hm : X.mg "any" = none) (h : PA X (e :: es) ta) (hc : X.calm = true := by rfl) (hg : Gl X "any" := by rfl) (he : starEach (e :: es) X.env = (false, eval e X.env) :: starEach es X.env := by rfl) (hpl : ((backTo pos (starEach es X.env)).any fun x => x.fst) = false := by rfl) : PE X (.Call (.Name "any" p) (e :: es) [] pos) (tCB (rAny X.K) ta) := pe_callB (cr_any hc) hg hm bb_any h (by decide) (by decide) he hpl
theorem ub_all (hm : X.mg "all" = none) (h : PA X (e :: es) ta) (hc : X.calm = true := by rfl) (hg : Gl X "all" := by rfl) (he : starEach (e :: es) X.env = (false, eval e X.env) :: starEach es X.env := by rfl) (hpl : ((backTo pos (starEach es X.env)).any fun x => x.fst) = false := by rfl) : PE X (.Call (.Name "all" p) (e :: es) [] pos) (tCB (rAll X.K) ta) := pe_callB (cr_all hc) hg hm bb_all h (by decide) (by decide) he hpl
theorem ub_sum (hm : X.mg "sum" = none) (h : PA X (e :: es) ta) (hc : X.calm = true := by rfl) (hg : Gl X "sum" := by rfl) (he : starEach (e :: es) X.env = (false, eval e X.env) :: starEach es X.env := by rfl) (hpl : ((backTo pos (starEach es X.env)).any fun x => x.fst) = false := by rfl) : PE X (.Call (.Name "sum" p) (e :: es) [] pos) (tCB (rSum X.K) ta) := pe_callB (cr_sum hc) hg hm bb_sum h (by decide) (by decide) he hpl
theorem pe_gint {x : Str} {i : Int} (hm : ∃ t, X.mg x = some (.int i t)) (hg : Gl X x := by rfl) (hd : (x == ("__debug__" : Str)) = false := by decide) : PE X (.Name x pos) (tC (.int i)) := by
  obtain ⟨t, h⟩ := hm
  exact pe_glob hg h ⟨t, rfl⟩ hd
theorem pe_gstr {x z : Str} (hm : ∃ t, X.mg x = some (.str z t)) (hg : Gl X x := by rfl) (hd : (x == ("__debug__" : Str)) = false := by decide) : PE X (.Name x pos) (tC (.str z)) := by
  obtain ⟨t, h⟩ := hm
  exact pe_glob hg h ⟨t, rfl⟩ hd
end
/-! ### subscripts, slices, stores -/
section
variable {K : PySem.W.Frag} {σ : L2.St} {F H : Hp} {Q : VK} {v x y : V} {a b : Addr} {xs ys : List V} {i j : Int} {s t : Str}
theorem z_ixL (h : H a = some (.lst xs)) (e : atI xs i = some v) (q : Q v H) : rIx K (.ref a) (.int i) H Q := .inl ⟨a, xs, i, v, rfl, rfl, SqL.of h, e, q⟩
theorem z_ixT (h : H a = some (.tup xs)) (e : atI xs i = some v) (q : Q v H) : rIx K (.ref a) (.int i) H Q := .inr (.inl ⟨a, xs, i, v, rfl, rfl, SqT.of h, e, q⟩)
theorem z_ixS {c : Nat} (h : s.length ≤ sizeLine) (e : atI s.cps.toList i = some c) (q : Q (.str ⟨#[c]⟩) H) : rIx K (.str s) (.int i) H Q := .inr (.inr ⟨s, i, c, rfl, rfl, h, e, q⟩)
def rSlU (K : PySem.W.Frag) : V → Option Int → Option Int → Hp → VK → Prop := fun x lo hi H Q => rSlL K x lo hi H Q ∨ rSlT K x lo hi H Q ∨ rSlS x lo hi H Q
theorem uSl {X : Cx} : SlR X (rSlU X.K) := SlR.or sl_list (SlR.or sl_tup sl_str)
theorem z_slL {lo hi : Option Int} (h : H a = some (.lst xs)) (sb : Sub F H) (q : ∀ p F' H', Mv N0 F H F' H' → F' p = some (.lst (cutV xs lo hi)) → Q (.ref p) H') : rSlU K (.ref a) lo hi H Q := .inl ⟨a, xs, rfl, SqL.of h, fz_all sb q⟩
theorem z_slS {lo hi : Option Int} (h : s.length ≤ sizeLine) (q : Q (.str (cutS s lo hi)) H) : rSlU K (.str s) lo hi H Q := .inr (.inr ⟨s, rfl, h, q⟩)
theorem z_slT {lo hi : Option Int} (h : H a = some (.tup xs)) (n : ¬ (HT.sIx xs.length 0 lo = 0 ∧ HT.sIx xs.length xs.length hi = xs.length)) (sb : Sub F H) (q : ∀ p F' H', Mv N0 F H F' H' → F' p = some (.tup (cutV xs lo hi)) → Q (.ref p) H') : rSlU K (.ref a) lo hi H Q :=
  .inr (.inl ⟨a, xs, rfl, SqT.of h, n, fz_all sb q⟩)
theorem z_sl {r : V → Option Int → Option Int → Hp → VK → Prop} {te : TE} {tl th : TO} (q : te σ H fun x H1 => tl σ H1 fun lo H2 => th σ H2 fun hi H3 => r x lo hi H3 Q) : tSl r te tl th σ H Q := q
theorem z_no {Q : Option Int → Hp → Prop} (q : Q none H) : tNoPart σ H Q := q
theorem z_part {te : TE} {Q : Option Int → Hp → Prop} (q : te σ H fun x H1 => ∃ i, x = .int i ∧ Q (some i) H1) : tPart te σ H Q := q
theorem z_pi {R : Int → Prop} (q : R i) : ∃ k, V.int i = .int k ∧ R k := ⟨i, rfl, q⟩
theorem atI_of {α : Type} {xs : List α} {i : Int} {v : α} (h0 : 0 ≤ i) (h : xs[i.toNat]? = some v) : atI xs i = some v := by
  have e : ((i.toNat : Nat) : Int) = i := Int.toNat_of_nonneg h0
  rw [← e]
  exact atI_nat h
theorem z_gsub {to ti : TE} {t : V → V → V → Hp → (Hp → Prop) → Prop} {Q : L2.St → Hp → Prop} (q : to σ H fun o H1 => ti σ H1 fun i H2 => t o i v H2 fun H3 => Q σ H3) : gSub to ti t v σ H Q := q
theorem z_setL {k : Nat} {Q : Hp → Prop} (h : H a = some (.lst xs)) (e : ixN xs.length i = some k) (sb : Sub F H) (f : F a = none) (q : ∀ F' H', Mv (fun b => b = a) F H F' H' → F' a = none → H' a = some (.lst (xs.set k v)) → Q H') : rSetL (.ref a) (.int i) v H Q :=
  ⟨a, xs, i, k, rfl, rfl, h, e, q F _ (mv_set sb f) f upd_same⟩
theorem z_app {y : V} (h : H a = some (.lst xs)) (hl : xs.length < sizeLine) (sb : Sub F H) (f : F a = none) (q : ∀ F' H', Mv (fun b => b = a) F H F' H' → F' a = none → H' a = some (.lst (xs ++ [y])) → Q .non H') : rAppend (.ref a) [y] H Q :=
  ⟨a, xs, y, rfl, rfl, h, hl, q F _ (mv_set sb f) f upd_same⟩
theorem z_bm {T : String} {r : V → List V → Hp → VK → Prop} {to : TE} {t : TA} (q : to σ H fun x H1 => tyV K T x H1 ∧ t σ H1 fun xs H2 => r x xs H2 Q) : tBM K T r to t σ H Q := q
theorem z_tyL {B : Prop} (h : H a = some (.lst xs)) (q : B) : tyV K "list" (.ref a) H ∧ B := ⟨.inl ⟨rfl, xs, SqL.of h⟩, q⟩
end
/-! ### loops -/
abbrev forJ (J : It) (g : TG) (tb : TS) : TS := fun D σ H => tFor (fun _ _ R => R J H) g tb D σ H
abbrev lcJ (J : It) (g : TG) (tt : TT) (te : TE) (vs : List Nat) : TE := fun σ H Q => tLc (fun _ _ R => R J H) g tt te vs σ H Q
section
variable {K : PySem.W.Frag} {σ : L2.St} {F H : Hp} {nx bk ct : L2.St → Hp → Prop} {rt : VK} {wi : TI} {g : TG} {tb : TS} {J : It} {n : Nat} {G : Hp → Prop} {Y : Nat → Hp → V → Hp → Prop} {a : Addr} {xs : List V} {te : TE} {tt : TT} {vs : List Nat} {Q : VK}
theorem z_for {D : Ends} (q : wi σ H fun J H1 => forJ J g tb D σ H1) : tFor wi g tb D σ H := q
theorem z_lc (q : wi σ H fun J H1 => lcJ J g tt te vs σ H1 Q) : tLc wi g tt te vs σ H Q := q
theorem z_iL {R : It → Hp → Prop} (q : te σ H fun x H1 => ∃ a, x = .ref a ∧ (∃ xs, SqL K H1 a xs) ∧ R (Itl K a) H1) : iList K te σ H R := q
theorem z_iT {R : It → Hp → Prop} (q : te σ H fun x H1 => ∃ a, x = .ref a ∧ (∃ xs, SqT K H1 a xs) ∧ R (Itt K a) H1) : iTup K te σ H R := q
theorem z_iS {R : It → Hp → Prop} (q : te σ H fun v H1 => ∃ x, v = .str x ∧ R (Its x) H1) : iStr te σ H R := q
theorem z_iR1 {ta : TA} {R : It → Hp → Prop} (q : ta σ H fun vs H1 => ∃ j : Int, vs = [.int j] ∧ -(2 ^ 62) ≤ j ∧ j < 2 ^ 62 ∧ R (Itr 0 j.toNat) H1) : iRng1 ta σ H R := q
theorem z_iR2 {ta : TA} {R : It → Hp → Prop} (q : ta σ H fun vs H1 => ∃ i j : Int, vs = [.int i, .int j] ∧ (-(2 ^ 62) ≤ i ∧ i < 2 ^ 62 ∧ -(2 ^ 62) ≤ j ∧ j < 2 ^ 62) ∧ R (Itr i (j - i).toNat) H1) : iRng2 ta σ H R := q
variable {D : Ends} {i j : Int} {x : Str} {ts : TS}
theorem z_fL (h : SqL K H a xs) (q : forJ (Itl K a) g tb D σ H) : ∃ b, V.ref a = .ref b ∧ (∃ xs, SqL K H b xs) ∧ forJ (Itl K b) g tb D σ H := ⟨a, rfl, ⟨xs, h⟩, q⟩
theorem z_cL (h : SqL K H a xs) (q : lcJ (Itl K a) g tt te vs σ H Q) : ∃ b, V.ref a = .ref b ∧ (∃ xs, SqL K H b xs) ∧ lcJ (Itl K b) g tt te vs σ H Q := ⟨a, rfl, ⟨xs, h⟩, q⟩
theorem z_fT (h : SqT K H a xs) (q : forJ (Itt K a) g tb D σ H) : ∃ b, V.ref a = .ref b ∧ (∃ xs, SqT K H b xs) ∧ forJ (Itt K b) g tb D σ H := ⟨a, rfl, ⟨xs, h⟩, q⟩
theorem z_cT (h : SqT K H a xs) (q : lcJ (Itt K a) g tt te vs σ H Q) : ∃ b, V.ref a = .ref b ∧ (∃ xs, SqT K H b xs) ∧ lcJ (Itt K b) g tt te vs σ H Q := ⟨a, rfl, ⟨xs, h⟩, q⟩
theorem z_fS (q : forJ (Its x) g tb D σ H) : ∃ y, V.str x = .str y ∧ forJ (Its y) g tb D σ H := ⟨x, rfl, q⟩
theorem z_cS (q : lcJ (Its x) g tt te vs σ H Q) : ∃ y, V.str x = .str y ∧ lcJ (Its y) g tt te vs σ H Q := ⟨x, rfl, q⟩
theorem z_fR1 (h1 : -(2 ^ 62) ≤ i) (h2 : i < 2 ^ 62) (q : forJ (Itr 0 i.toNat) g tb D σ H) : ∃ j : Int, [V.int i] = [.int j] ∧ -(2 ^ 62) ≤ j ∧ j < 2 ^ 62 ∧ forJ (Itr 0 j.toNat) g tb D σ H := ⟨i, rfl, h1, h2, q⟩
theorem z_cR1 (h1 : -(2 ^ 62) ≤ i) (h2 : i < 2 ^ 62) (q : lcJ (Itr 0 i.toNat) g tt te vs σ H Q) : ∃ j : Int, [V.int i] = [.int j] ∧ -(2 ^ 62) ≤ j ∧ j < 2 ^ 62 ∧ lcJ (Itr 0 j.toNat) g tt te vs σ H Q := ⟨i, rfl, h1, h2, q⟩
theorem z_fR2 (h : -(2 ^ 62) ≤ i ∧ i < 2 ^ 62 ∧ -(2 ^ 62) ≤ j ∧ j < 2 ^ 62) (q : forJ (Itr i (j - i).toNat) g tb D σ H) : ∃ a b : Int, [V.int i, V.int j] = [.int a, .int b] ∧ (-(2 ^ 62) ≤ a ∧ a < 2 ^ 62 ∧ -(2 ^ 62) ≤ b ∧ b < 2 ^ 62) ∧ forJ (Itr a (b - a).toNat) g tb D σ H := ⟨i, j, rfl, h, q⟩
theorem z_cR2 (h : -(2 ^ 62) ≤ i ∧ i < 2 ^ 62 ∧ -(2 ^ 62) ≤ j ∧ j < 2 ^ 62) (q : lcJ (Itr i (j - i).toNat) g tt te vs σ H Q) : ∃ a b : Int, [V.int i, V.int j] = [.int a, .int b] ∧ (-(2 ^ 62) ≤ a ∧ a < 2 ^ 62 ∧ -(2 ^ 62) ≤ b ∧ b < 2 ^ 62) ∧ lcJ (Itr a (b - a).toNat) g tt te vs σ H Q := ⟨i, j, rfl, h, q⟩
/-- a for over anything -/
theorem for_W (w : Walk J n G Y) (Pv : Nat → L2.St → Hp → Prop) (h0 : Pv 0 σ H) (hG : ∀ i σ H, i ≤ n → Pv i σ H → G H)
    (hs : ∀ i x σ H H', i < n → Pv i σ H → Y i H x H' → g x σ H' fun σ2 H2 => tb ⟨Pv (i + 1), rt, nx, Pv (i + 1)⟩ σ2 H2) (hd : ∀ σ H, Pv n σ H → nx σ H) : forJ J g tb ⟨nx, rt, bk, ct⟩ σ H :=
  for_it (D := ⟨nx, rt, bk, ct⟩) w Pv h0 hG hs hd
theorem Mv.weak {M M' : Addr → Prop} {F H F' H' : Hp} (g : Mv M F H F' H') (c : ∀ a, M a → M' a) : Mv M' F H F' H' :=
  ⟨g.ext, g.sub, fun b o n h => g.kp b o (fun z => n (c b z)) h, fun b o n h => g.fr b o (fun z => n (c b z)) h, g.al⟩
/-- a list's comprehension over anything; the list that grows stands at D, unfrozen; it is frozen at the end -/
theorem lc_W {M : Addr → Prop} (s : Sub F H) (w : Walk J n G Y) (Pv : Nat → Hp → Hp → List V → Prop)
    (hP : ∀ i F1 H1 acc D H2, H D = none → Mv M F H F1 H1 → Pv i F1 H1 acc → Mv (fun a => a = D) F1 H1 F1 H2 → Pv i F1 H2 acc)
    (h0 : Pv 0 F H []) (hG : ∀ i F1 H1 acc, i ≤ n → Mv M F H F1 H1 → Pv i F1 H1 acc → G H1) (hl : ∀ i F1 H1 acc, Pv i F1 H1 acc → acc.length ≤ i) (hn : n ≤ 1000000)
    (hs : ∀ i x F1 H1 H1' acc (Kk : VK) (Kn : Hp → Prop), i < n → Mv M F H F1 H1 → Pv i F1 H1 acc → Y i H1 x H1' → (∀ y F4 H4, Mv M F1 H1 F4 H4 → Pv (i + 1) F4 H4 (acc ++ [y]) → Kk y H4) →
      (∀ F3 H3, Mv M F1 H1 F3 H3 → Pv (i + 1) F3 H3 acc → Kn H3) → g x (wipe σ vs) H1' fun σ2 H2 => wipe σ2 vs = wipe σ vs ∧ tt σ2 H2 fun b H3 => if b = true then te σ2 H3 Kk else Kn H3)
    (hM : ∀ a, M a → ∃ o, H a = some o)
    (hd : ∀ D F1 H1 F' acc, H D = none → Mv M F H F1 H1 → Pv n F1 H1 acc → Mv (fun a => a = D) F1 H1 F' H1 → F' D = some (.lst acc) → Q (.ref D) H1) : lcJ J g tt te vs σ H Q := by
  intro D hD
  have hMD : ¬ M D := fun z => by
    obtain ⟨o, e⟩ := hM D z
    rw [hD] at e
    cases e
  refine lc_it w (fun i H1 => ∃ F1 acc, Mv M F H F1 H1 ∧ F1 D = none ∧ H1 D = some (.lst acc) ∧ Pv i F1 H1 acc) ⟨F, [], (mv_newV s hD).weak (fun _ z => z.elim), s.free hD, upd_same, ?_⟩ ?_ ?_ ?_
  · exact hP 0 F H [] D _ hD (Mv.self s) h0 ((mv_newV s hD).weak fun _ z => z.elim)
  · rintro i H1 hi ⟨F1, acc, g1, _, _, p⟩
    exact hG i F1 H1 acc hi g1 p
  · rintro i x H1 H1' hi ⟨F1, acc, g1, f1, h1, p⟩ y
    refine hs i x F1 H1 H1' acc _ _ hi g1 p y (fun z F4 H4 g4 p4 => ?_) fun F3 H3 g3 p3 => ?_
    · have d4 : H4 D = some (.lst acc) := g4.kp D _ hMD h1
      have f4 : F4 D = none := (g4.fr D _ hMD h1).trans f1
      have gm : Mv M F H F4 H4 := g4.step (fun a z => .inl z) g1
      have gD : Mv (fun a => a = D) F4 H4 F4 (upd H4 D (.lst (acc ++ [z]))) := mv_set g4.sub f4
      refine ⟨acc, d4, ?_, F4, acc ++ [z], gD.step (fun a e => .inr (by rw [e]; exact hD)) gm, f4, upd_same, hP (i + 1) F4 H4 _ D _ hD gm p4 gD⟩
      have q := hl i F1 H1 acc p
      rw [sizeLine_eq]
      omega
    · exact ⟨F3, acc, g3.step (fun a z => .inl z) g1, (g3.fr D _ hMD h1).trans f1, g3.kp D _ hMD h1, p3⟩
  · rintro H1 ⟨F1, acc, g1, f1, h1, p⟩
    obtain ⟨F', g2, h2⟩ := freeze g1.sub f1 h1
    exact hd D F1 H1 F' acc hD g1 p g2 h2
end
end U
/-! U3: defs by their names; the pot of draws. -/
namespace U
open PySem PySem.Spec PySem.Calls L2
/-- the def that the module's name x stands for -/
structure DfG (K : PySem.W.Frag) (mg : Str → Option Value) (x : Str) (st : Stmt) : Prop where
  ex : ∃ (f : Addr) (fd : FuncData), FunD K x x (defArgs st) (defBody st) (defScope st) [] [] f fd ∧ mg x = some (.ref f)
/-- it keeps the promise sp -/
structure FnG (P : Program) (w : World) (K : PySem.W.Frag) (mg : Str → Option Value) (base : Heap) (CX : CXT) (k : Nat) (x : Str) (ps : List Str) (sp : Sp) : Prop where
  ex : ∃ (f : Addr) (fd : FuncData), FnOk P w K mg base CX k f fd ps sp ∧ Binds K fd ps [] ∧ PySem.W.keepIn K (.ref f) = true ∧ mg x = some (.ref f)
section
variable {P : Program} {w : World} {K : PySem.W.Frag} {mg : Str → Option Value} {base : Heap} {x : Str} {st : Stmt} {N ps : List Str} {sp : Sp} {k : Nat}
theorem okG (F : DfG K mg x st) (S : FnScope N ps (defScope st))
    (hb : ∀ (kV doc pm : Value) (an : Option Addr) (cdv ct : Value) (us : List Value), us.length = ps.length → bindArgs (PySem.W.fnOf x x (defArgs st) (defBody st) (defScope st) .none kV doc pm an cdv ct) ⟨us, []⟩ = pure (ps.zip us))
    (len : ∀ vs H Q E, sp vs H Q E → vs.length = ps.length)
    (body : ∀ (f : Addr) (cdv : Value) (A : Around) (outer : List Env) (s : Shared) (H : Hp) (vs : List V) (Q : VK) (E : XK), Room k (A.deeper (PyProof.Rows.envOfC x (defScope st) s.heap.objs.size f cdv)) → sp vs H Q E →
      ∃ t, PSs (cxOf CX0 P w K mg base N x (defScope st) f cdv A outer s H E).nox (defBody st) t ∧ t ⟨fun _ H' => Q .non H', Q, fun _ _ => False, fun _ _ => False⟩ (start N vs) H) : FnG P w K mg base CX0 (k + 1) x ps sp := by
  obtain ⟨f, fd, F, hm⟩ := F.ex
  refine ⟨f, fd, F.ok S len fun cdv A outer s H vs Q E hr h => ?_, F.bindsN hb, F.kp, hm⟩
  obtain ⟨t, h1, h2⟩ := body f cdv A outer s H vs Q E hr h
  exact ⟨t, h1.nox, h2⟩
theorem FnG.mono {CX : CXT} {j : Nat} (F : FnG P w K mg base CX j x ps sp) (h : j ≤ k) : FnG P w K mg base CX k x ps sp := by
  obtain ⟨f, fd, F, b, kp, hm⟩ := F.ex
  exact ⟨f, fd, F.mono h, b, kp, hm⟩
theorem FnG.imp {CX : CXT} {sp' : Sp} (F : FnG P w K mg base CX k x ps sp) (h : ∀ vs H Q E, sp' vs H Q E → sp vs H Q E) : FnG P w K mg base CX k x ps sp' := by
  obtain ⟨f, fd, F, b, kp, hm⟩ := F.ex
  exact ⟨f, fd, F.imp h, b, kp, hm⟩
end
section
variable {X : Cx} {CX : CXT} {k : Nat} {x : Str} {ps : List Str} {sp : Sp} {E : XK} {p pos : Pos} {e : Expr} {es : List Expr} {t : TA}
theorem pe_callG (F : FnG X.prog X.w X.K X.mg X.base CX k x ps sp) (hr : Room k X.A) (hg : Gl X x) (hx : Passes CX X E) (ha : PA X (e :: es) t) (hd : (x == ("__debug__" : Str)) = false := by decide)
    (he : starEach (e :: es) X.env = (false, eval e X.env) :: starEach es X.env := by rfl) (hpl : ((backTo pos (starEach es X.env)).any fun x => x.fst) = false := by rfl) : PE X (.Call (.Name x p) (e :: es) [] pos) (tCall sp [] E t) := by
  obtain ⟨f, fd, F, b, kp, hm⟩ := F.ex
  exact pe_call F hr hg hm kp b .nil hx ha hd he hpl
theorem pe_callG0 (F : FnG X.prog X.w X.K X.mg X.base CX k x ps sp) (hr : Room k X.A) (hg : Gl X x) (hx : Passes CX X E) (hd : (x == ("__debug__" : Str)) = false := by decide) : PE X (.Call (.Name x p) [] [] pos) (tCall sp [] E tNil) := by
  obtain ⟨f, fd, F, b, kp, hm⟩ := F.ex
  exact pe_call0 F hr hg hm kp b .nil hx hd
end
/-! ### facts carried on -/
section
variable {M : Addr → Prop} {F H F' H' : Hp} {a : Addr} {o : HO} {xs : List V}
theorem Mv.none (g : Mv M F H F' H') (n : ¬ M a) (h : H a = some o) (f : F a = Option.none) : F' a = Option.none := (g.fr a o n h).trans f
theorem Mv.l (g : Mv M F H F' H') (n : ¬ M a) (h : H a = some o) : H' a = some o := g.kp a o n h
end
/-! ### the pot -/
def PotOk (F H : Hp) (p : Addr) : Prop := F p = none ∧ ∃ (l : Addr) (at_ big seed : Int) (ns : List Int), H p = some (.lst [.ref l, .int at_, .int big, .int seed]) ∧ F l = some (.lst (ns.map V.int)) ∧ ns.length ≤ 1000 ∧ 0 ≤ at_ ∧ 0 ≤ big ∧ 0 ≤ seed ∧ seed < 2147483647
theorem PotOk.mv {M : Addr → Prop} {F H F' H' : Hp} {p : Addr} (P : PotOk F H p) (g : Mv M F H F' H') (n : ¬ M p) : PotOk F' H' p := by
  obtain ⟨f, l, a, b, c, ns, h, hl, r⟩ := P
  exact ⟨(g.fr p _ n h).trans f, l, a, b, c, ns, g.kp p _ n h, g.ext l _ hl, r⟩
theorem PotOk.f {F H : Hp} {p : Addr} (P : PotOk F H p) : F p = none := P.1
theorem PotOk.al {F H : Hp} {p : Addr} (P : PotOk F H p) : ∃ o, H p = some o := by
  obtain ⟨_, _, _, _, _, _, h, _⟩ := P
  exact ⟨_, h⟩
/-- the objects that a draw changes -/
abbrev Mp (p : Addr) : Addr → Prop := fun a => a = p
def spNext : Sp := fun vs H Q _ => ∃ (F : Hp) (p : Addr) (n : Int), vs = [.ref p, .int n] ∧ Sub F H ∧ PotOk F H p ∧ 0 < n ∧ n < 1073741824 ∧ ∀ (r : Int) (F' H' : Hp), 0 ≤ r → r < n → Mv (Mp p) F H F' H' → PotOk F' H' p → Q (.int r) H'
def spPot (K : PySem.W.Frag) : Sp := fun vs H Q _ => ∃ (F : Hp) (a : Addr) (ns : List Int), vs = [.ref a] ∧ Sub F H ∧ SqL K H a (ns.map V.int) ∧ ns.length ≤ 63 ∧ ∀ (p : Addr) (F' H' : Hp), Mv N0 F H F' H' → H p = none → PotOk F' H' p → Q (.ref p) H'
theorem next_at {F H : Hp} {p : Addr} {n : Int} {Q : VK} {E : XK} (s : Sub F H) (P : PotOk F H p) (h0 : 0 < n) (h1 : n < 1073741824) (q : ∀ (r : Int) (F' H' : Hp), 0 ≤ r → r < n → Mv (Mp p) F H F' H' → PotOk F' H' p → Q (.int r) H') : spNext ([.ref p, .int n] ++ []) H Q E :=
  ⟨F, p, n, rfl, s, P, h0, h1, q⟩
end U
/-! U4: dicts, texts, loops over a dict's keys. -/
namespace U
open PySem PySem.Spec PySem.Calls L2
section
variable {K : PySem.W.Frag} {σ : L2.St} {F H : Hp} {Q : VK} {v x y : V} {a b : Addr} {xs ys : List V} {kvs : List (Key × V)} {p s t : Str} {nx bk ct : L2.St → Hp → Prop} {rt : VK} {ta tb te td ty tv : TE}
theorem z_m1 {r : V → List V → Hp → VK → Prop} {to : TE} (q : to σ H fun x H1 => (∃ a, x = .str a) ∧ te σ H1 fun y H2 => r x [y] H2 Q) : tM1 r to te σ H Q := q
theorem z_isS {B : Prop} (q : B) : (∃ a, V.str s = .str a) ∧ B := ⟨⟨s, rfl⟩, q⟩
theorem z_split (hb : (t.length == 0) = false) (hl : s.length + 2 ≤ sizeLine) (sb : Sub F H) (q : ∀ p F' H', Mv N0 F H F' H' → F' p = some (.lst ((Txt.split s t).map V.str)) → Q (.ref p) H') :
    ∃ (a b : Str), V.str s = .str a ∧ [V.str t] = [.str b] ∧ (b.length == 0) = false ∧ a.length + 2 ≤ sizeLine ∧ rNewStrs (Txt.split a b) H Q := ⟨s, t, rfl, rfl, hb, hl, fz_all sb q⟩
theorem z_din (q : ty σ H fun y H1 => td σ H1 fun x H2 => ∃ a o, x = .ref a ∧ DGet H2 a y o ∧ Q (.bl o.isSome) H2) : tDIn ty td σ H Q := q
theorem z_dni (q : ty σ H fun y H1 => td σ H1 fun x H2 => ∃ a o, x = .ref a ∧ DGet H2 a y o ∧ Q (.bl (!o.isSome)) H2) : tDNotIn ty td σ H Q := q
theorem z_dget (q : td σ H fun x H1 => ty σ H1 fun y H2 => ∃ a v, x = .ref a ∧ DGet H2 a y (some v) ∧ Q v H2) : tDGet td ty σ H Q := q
theorem z_dput (q : tv σ H fun v H1 => td σ H1 fun x H2 => ty σ H2 fun y H3 => ∃ a H4, x = .ref a ∧ DPut H3 a y v H4 ∧ nx σ H4) : sDPut td ty tv ⟨nx, rt, bk, ct⟩ σ H := q
theorem z_dpop1 (q : td σ H fun x H1 => ∃ a, x = .ref a ∧ IsD H1 a ∧ ty σ H1 fun y H2 => ∃ kvs k v, H2 a = some (.dK kvs) ∧ y = kV k ∧ valV kvs k = some v ∧ ∀ H3, H3 = upd H2 a (.dK (dropK kvs k)) → Q v H3) : tDPop1 td ty σ H Q := by
  simp only [forall_eq] at q
  exact q
theorem z_ddel (q : td σ H fun x H1 => ty σ H1 fun y H2 => ∃ a kvs k, x = .ref a ∧ H2 a = some (.dK kvs) ∧ y = kV k ∧ (valV kvs k).isSome = true ∧ ∀ H3, H3 = upd H2 a (.dK (dropK kvs k)) → nx σ H3) : sDDel td ty ⟨nx, rt, bk, ct⟩ σ H := by
  simp only [forall_eq] at q
  exact q
/-- a dict asked with a text -/
theorem z_has {R : Option V → Prop} (h : Rd H a (.dK kvs)) (q : R (valV kvs (.inr p))) : ∃ b o, V.ref a = .ref b ∧ DGet H b (.str p) o ∧ R o := ⟨a, _, rfl, .inl ⟨kvs, .inr p, h, rfl, rfl⟩, q⟩
theorem z_at {R : V → Prop} (h : Rd H a (.dK kvs)) (e : valV kvs (.inr p) = some v) (q : R v) : ∃ b v', V.ref a = .ref b ∧ DGet H b (.str p) (some v') ∧ R v' := ⟨a, v, rfl, .inl ⟨kvs, .inr p, h, rfl, e.symm⟩, q⟩
theorem z_put {R : Hp → Prop} (h : H a = some (.dK kvs)) (hl : kvs.length < sizeLine) (sb : Sub F H) (f : F a = none) (q : ∀ F' H', Mv (fun b => b = a) F H F' H' → F' a = none → H' a = some (.dK (putK kvs (.inr p) v)) → R H') :
    ∃ b H4, V.ref a = .ref b ∧ DPut H b (.str p) v H4 ∧ R H4 := ⟨a, _, rfl, .inl ⟨kvs, .inr p, h, rfl, hl, rfl⟩, q F _ (mv_set sb f) f upd_same⟩
theorem z_isD {R : Addr → Prop} (h : H a = some (.dK kvs)) (q : R a) : ∃ b, V.ref a = .ref b ∧ IsD H b ∧ R b := ⟨a, rfl, .inl ⟨kvs, .inl h⟩, q⟩
theorem z_pop {w : V} {R : V → Hp → Prop} (h : H a = some (.dK kvs)) (e : valV kvs (.inr p) = some w) (sb : Sub F H) (f : F a = none) (q : ∀ F' H', Mv (fun b => b = a) F H F' H' → F' a = none → H' a = some (.dK (dropK kvs (.inr p))) → R w H') :
    ∃ kvs' k v', H a = some (.dK kvs') ∧ V.str p = kV k ∧ valV kvs' k = some v' ∧ ∀ H3, H3 = upd H a (.dK (dropK kvs' k)) → R v' H3 := ⟨kvs, .inr p, w, h, rfl, e, fun H3 e3 => by
    subst e3
    exact q F _ (mv_set sb f) f upd_same⟩
theorem z_del {R : Hp → Prop} (h : H a = some (.dK kvs)) (e : (valV kvs (.inr p)).isSome = true) (sb : Sub F H) (f : F a = none) (q : ∀ F' H', Mv (fun b => b = a) F H F' H' → F' a = none → H' a = some (.dK (dropK kvs (.inr p))) → R H') :
    ∃ b kvs' k, V.ref a = .ref b ∧ H b = some (.dK kvs') ∧ V.str p = kV k ∧ (valV kvs' k).isSome = true ∧ ∀ H3, H3 = upd H b (.dK (dropK kvs' k)) → R H3 := ⟨a, kvs, .inr p, rfl, h, rfl, e, fun H3 e3 => by
    subst e3
    exact q F _ (mv_set sb f) f upd_same⟩
theorem z_lockLc {j : Nat} (q : tLockE te σ H fun v H' => nx (σ.set j (some v)) H') : tLock (tAsg te (gName j)) ⟨nx, rt, bk, ct⟩ σ H := q
/-! ### loops over a dict's keys: the dict is locked meanwhile -/
variable {d : Addr} {M : Addr → Prop} {g : TG} {ts : TS} {tt : TT} {vs : List Nat} {i : Nat}
theorem for_keys (s : Sub F H) (hv : σ[i]? = some (some (.ref d))) (hH : H d = some (.dK kvs)) (hF : F d = none ∨ F d = some (.dK kvs)) (hM : ¬ M d) (Pv : Nat → L2.St → Hp → Hp → Prop)
    (h0 : ∀ od, Pv 0 σ F (upd H d (.frz od (.dK kvs))))
    (hs : ∀ od i k v σ1 F1 H1 (N : L2.St → Hp → Prop) (rt' : VK) (bk' : L2.St → Hp → Prop), kvs[i]? = some (k, v) → Mv M F (upd H d (.frz od (.dK kvs))) F1 H1 → H1 d = some (.frz od (.dK kvs)) → Pv i σ1 F1 H1 →
      (∀ σ2 F2 H2, Mv M F1 H1 F2 H2 → Pv (i + 1) σ2 F2 H2 → N σ2 H2) → g (kV k) σ1 H1 fun σ2 H2 => ts ⟨N, rt', bk', N⟩ σ2 H2)
    (hd : ∀ od σ1 F1 H1, Mv M F H F1 (upd H1 d (.dK kvs)) → Mv M F (upd H d (.frz od (.dK kvs))) F1 H1 → Pv kvs.length σ1 F1 H1 → nx σ1 (upd H1 d (.dK kvs))) :
    tLock (tFor (iKeys (tVar i)) g ts) ⟨nx, rt, bk, ct⟩ σ H := by
  refine ⟨d, .dK kvs, hH, trivial, fun od => ?_⟩
  refine ⟨.ref d, hv, d, od, rfl, .inl ⟨kvs, upd_same, ?_⟩⟩
  refine for_it walk_keys (fun i σ1 H1 => ∃ F1, Mv M F (upd H d (.frz od (.dK kvs))) F1 H1 ∧ H1 d = some (.frz od (.dK kvs)) ∧ Pv i σ1 F1 H1) ⟨F, Mv.self (sub_lock s hF), upd_same, h0 od⟩ (fun i σ1 H1 _ ⟨_, _, h, _⟩ => h) ?_ ?_
  · rintro i x σ1 H1 H1' hi ⟨F1, g1, l1, p⟩ ⟨rfl, k, v, hk, rfl⟩
    refine hs od i k v σ1 F1 H1' _ _ _ hk g1 l1 p fun σ2 F2 H2 g2 p2 => ⟨F2, g2.step (fun a z => .inl z) g1, g2.kp d _ hM l1, p2⟩
  · rintro σ1 H1 ⟨F1, g1, l1, p⟩
    exact ⟨l1, hd od σ1 F1 H1 (g1.unlock hH hF hM) g1 p⟩
/-- a list's comprehension over a dict's keys that changes nothing: Pv speaks of the new list alone -/
theorem lc_keys (s : Sub F H) (hv : σ[i]? = some (some (.ref d))) (hH : H d = some (.dK kvs)) (hF : F d = none ∨ F d = some (.dK kvs)) (hn : kvs.length ≤ 1000000) (Pv : Nat → List V → Prop) (h0 : Pv 0 []) (hl : ∀ i acc, Pv i acc → acc.length ≤ i)
    (hs : ∀ i k v F1 H1 acc (Kk : VK) (Kn : Hp → Prop), kvs[i]? = some (k, v) → Mv N0 F H F1 (upd H1 d (.dK kvs)) → Sub F1 H1 → (∀ b, b ≠ d → H1 b = (upd H1 d (.dK kvs)) b) → (∀ b o, F b = some o → F1 b = some o) → Rd H1 d (.dK kvs) → Pv i acc →
      (∀ y F4 H4, Mv N0 F1 H1 F4 H4 → Pv (i + 1) (acc ++ [y]) → Kk y H4) → (∀ F3 H3, Mv N0 F1 H1 F3 H3 → Pv (i + 1) acc → Kn H3) →
      g (kV k) (wipe σ vs) H1 fun σ2 H2 => wipe σ2 vs = wipe σ vs ∧ tt σ2 H2 fun b H3 => if b = true then te σ2 H3 Kk else Kn H3)
    (hd : ∀ D F' H' acc, Mv N0 F H F' H' → H D = none → F' D = some (.lst acc) → Pv kvs.length acc → Q (.ref D) H') :
    tLockE (tLc (iKeys (tVar i)) g tt te vs) σ H Q := by
  refine ⟨d, .dK kvs, hH, trivial, fun od => ?_⟩
  have sl : Sub F (upd H d (.frz od (.dK kvs))) := sub_lock s hF
  refine ⟨.ref d, hv, d, od, rfl, .inl ⟨kvs, upd_same, ?_⟩⟩
  have key : lcJ (Itk d od kvs) g tt te vs σ (upd H d (.frz od (.dK kvs))) (fun v H' => H' d = some (.frz od (.dK kvs)) ∧ Q v (upd H' d (.dK kvs))) := by
    refine lc_W (M := N0) sl walk_keys (fun i F1 H1 acc => Pv i acc) (fun _ _ _ _ _ _ _ _ p _ => p) h0 (fun i F1 H1 acc _ g1 _ => g1.kp d _ (fun z => z) upd_same) (fun i _ _ acc p => hl i acc p) hn ?_ (fun _ z => z.elim) ?_
    · rintro i x F1 H1 H1' acc Kk Kn hi g1 p ⟨rfl, k, v, hk, rfl⟩ hK hN
      refine hs i k v F1 H1' acc Kk Kn hk (g1.unlock hH hF fun z => z) g1.sub (fun b hb => (upd_ne hb).symm) g1.ext (.inr ⟨od, g1.kp d _ (fun z => z) upd_same⟩) p hK hN
    · rintro D F1 H1 F' acc hD g1 p g2 h2
      have l1 : H1 d = some (.frz od (.dK kvs)) := g1.kp d _ (fun z => z) upd_same
      have hDd : D ≠ d := fun e => by
        rw [e, upd_same] at hD
        cases hD
      have hD' : H D = none := by
        rw [upd_ne hDd] at hD
        exact hD
      refine ⟨l1, hd D F' _ acc ?_ hD' h2 p⟩
      have g3 : Mv N0 F (upd H d (.frz od (.dK kvs))) F' H1 := g2.step (fun a e => .inr (by rw [e]; exact hD)) g1
      exact g3.unlock hH hF fun z => z
  exact key
end
end U
/-! U5: sorted of a dict whose keys are texts, however many. -/
namespace U
open PySem PySem.Spec PySem.Calls L2
/-- what is asked of sorted over a dict d -/
def rSortD : List V → Hp → VK → Prop := fun xs H Q => ∃ (d : Addr) (kvs : List (Key × V)) (ks : List Str), xs = [.ref d] ∧ Rd H d (.dK kvs) ∧ kvs.map (·.1) = ks.map Sum.inr ∧
  ∀ (ys : List Str) (p : Addr), ys.Perm ks → PyProof.Rows.sortedS ys = true → H p = none → Q (.ref p) (upd H p (.lst (ys.map V.str)))
theorem vs_strs {vs : List (Key × Value)} {ks : List Str} {acc : Array Value} (hkeys : vs.map (·.1) = ks.map Sum.inr) (hsz : acc.size = vs.length) (hacc : ∀ (j : Nat) (v : Value), acc[j]? = some v → ∃ (k : Key) (x : Value), vs[j]? = some (k, x) ∧ keyIs k v = true) :
    PyProof.Rows.StrsAre acc.toList ks := by
  have hl : vs.length = ks.length := by simpa using congrArg List.length hkeys
  refine strs_at (by rw [Array.length_toList, hsz, hl]) fun j v e => ?_
  obtain ⟨k, x, e1, e2⟩ := hacc j v (by rw [← Array.getElem?_toList]; exact e)
  have e3 : (ks.map Sum.inr)[j]? = some k := by
    rw [← hkeys, List.getElem?_map, e1]
    rfl
  rw [List.getElem?_map] at e3
  obtain ⟨y, e4, rfl⟩ := Option.map_eq_some_iff.mp e3
  obtain ⟨t, ev⟩ := PySem.Value.isStrOf_shape (x := y) (v := v) e2
  exact ⟨y, t, e4, ev⟩
section
variable {X : Cx}
theorem cr_sortD (hcalm : X.calm = true) : CallR X (.builtin "sorted") rSortD := by
  intro pins s σ H xs us Q I r q
  obtain ⟨d, kvs, ks, rfl, hd, hks, q⟩ := q
  obtain ⟨u, rfl, rx⟩ := vals1 r
  cases rx
  obtain ⟨z, lo, vs, rel, dd⟩ := dk_rd I.hok hd
  obtain ⟨ep, hat⟩ := dd.dictAt
  have hkeys : vs.map (·.1) = ks.map Sum.inr := rel.keys.symm.trans hks
  have hl : vs.length = ks.length := by simpa using congrArg List.length hkeys
  have h16 : vs.length ≤ sizeLine := by
    rw [← rel.length]
    exact z
  refine Calls.call_function_entry PyProof.Rows.kind_sorted PyProof.Rows.plain_sorted PyProof.Rows.entry_sorted (PyProof.Rows.args_sorted1 _) ?_
  unfold Builtin.«sorted»
  refine wpAny_bind (m := checkCount "sorted" 1 1 _) (wpAny_pure (wpAny_bind (PySem.W.kdu_collect (A := X.A.in1) (PySem.W.kdl_dict (knd := mixKind X.prog X.w) (kvs := vs) (ep := ep) lo) (I.ok.hd hcalm) hat h16 fun h' tk acc hk hacc => ?_)))
  have hS : PyProof.Rows.StrsAre acc.toList ks := vs_strs hkeys hacc.1 hacc.2
  have hal : acc.toList.length ≤ sizeLine := by
    rw [Array.length_toList, hacc.1]
    exact h16
  have I1 : Inv X pins σ H { s with heap := h', toks := tk } := I.kept hk
  refine wpAny_bind (wpAny_newList ?_ hal)
  have hoL : (h'.push (PyProof.Rows.seqObj "list" acc.toList.toArray 0)).get? h'.objs.size = some (PyProof.Rows.seqObj "list" acc.toList.toArray 0) := Heap.get?_push_size _ rfl
  show wpAny _ _ _ _ _ { s with heap := h'.push (PyProof.Rows.seqObj "list" acc.toList.toArray 0), toks := tk }
  refine wpAny_bind (wpAny_holding (wpAny_call_entry PyProof.Rows.slot_list_sort ⟨_, hoL, rfl⟩ PyProof.Rows.entry_list_sort
    (PyProof.Rows.list_sort_treeKAny PyProof.Rows.strKind_oneLt (s := { s with heap := h'.push (PyProof.Rows.seqObj "list" acc.toList.toArray 0), toks := tk }) hoL hS.keysOf (fun v₁ v₂ rest e => PyProof.Rows.keyKind_strs (by rw [← e]; exact hS)) hal fun st' hp hs => ⟨_, rfl, ?_⟩)
    (PyProof.Rows.args_list_sort _)))
  obtain ⟨ys, g1, g2, g3⟩ := PyProof.Rows.sorted_out_str hS hp hs
  obtain ⟨e', he'⟩ := PyProof.Rows.sortedHeap_at (vs := acc.toList) (out := (PyProof.Rows.arrOf st').map (·.2)) hoL
  have hlen : (ys.map V.str).length ≤ sizeLine := by
    rw [List.length_map, g2.length_eq, ← hl]
    exact h16
  have ob : ∀ h2 : Heap, h2.get? h'.objs.size = some (PyProof.Rows.seqObj "list" ((PyProof.Rows.arrOf st').map (·.2)) e') → ObjOk X.prog X.w (upd H h'.objs.size (.lst (ys.map V.str))) h2 h'.objs.size (.lst (ys.map V.str)) := fun h2 e => ⟨hlen, _, e', vals_of_strs g1, by rw [Array.toArray_toList]; exact e⟩
  have hfr := I1.hok.fresh (Nat.le_refl h'.objs.size)
  refine wpAny_pure ⟨_, rfl, .ref h'.objs.size, _, I1.laid (t' := tk) (fun b u e => ?_) (Nat.le_refl _) (ob _ he'), rfl, q ys _ g2 g3 hfr⟩
  have hb : b < h'.objs.size := Heap.lt_size e
  rw [PyProof.Rows.sortedHeap_old (Nat.ne_of_lt hb) (by rw [PyProof.Rows.size_push']; exact Nat.lt_succ_of_lt hb)]
  exact Heap.get?_push_of_some _ e
variable {e : Expr} {es : List Expr} {ta : TA} {p pos : Pos}
theorem ub_sortedD (hm : X.mg "sorted" = none) (h : PA X (e :: es) ta) (hc : X.calm = true := by rfl) (hg : Gl X "sorted" := by rfl) (he : starEach (e :: es) X.env = (false, eval e X.env) :: starEach es X.env := by rfl)
    (hpl : ((backTo pos (starEach es X.env)).any fun x => x.fst) = false := by rfl) : PE X (.Call (.Name "sorted" p) (e :: es) [] pos) (tCB rSortD ta) := pe_callB (cr_sortD hc) hg hm bb_sorted h (by decide) (by decide) he hpl
end
theorem z_sortD {F H : Hp} {Q : VK} {d : Addr} {kvs : List (Key × V)} {ks : List Str} (h : Rd H d (.dK kvs)) (hk : kvs.map (·.1) = ks.map Sum.inr) (sb : Sub F H)
    (q : ∀ (ys : List Str), ys.Perm ks → PyProof.Rows.sortedS ys = true → ∀ p F' H', Mv N0 F H F' H' → F' p = some (.lst (ys.map V.str)) → Q (.ref p) H') : rSortD [.ref d] H Q :=
  ⟨d, kvs, ks, rfl, h, hk, fun ys p h1 h2 hp => q ys h1 h2 p _ _ (mv_new sb hp) upd_same⟩
end U
/-! U6: slices by plain words; texts' lengths. -/
namespace U
open PySem PySem.Spec PySem.Calls L2
theorem cutV_to (xs : List V) (k : Nat) : cutV xs none (some (k : Int)) = xs.take k := by
  unfold cutV
  rw [HT.sIx_none, HT.sIx_nat, List.drop_zero, Nat.sub_zero]
  by_cases h : k ≤ xs.length
  · rw [Nat.min_eq_left h]
  · rw [Nat.min_eq_right (by omega), List.take_of_length_le (Nat.le_refl _), List.take_of_length_le (by omega)]
theorem cutV_from (xs : List V) (k : Nat) : cutV xs (some (k : Int)) none = xs.drop k := by
  unfold cutV
  rw [HT.sIx_none, HT.sIx_nat]
  by_cases h : k ≤ xs.length
  · rw [Nat.min_eq_left h, List.take_of_length_le (by rw [List.length_drop] <;> omega)]
  · rw [Nat.min_eq_right (by omega), List.drop_length, List.take_nil, List.drop_of_length_le (by omega)]
theorem cutV_mid (xs : List V) (a b : Nat) : cutV xs (some (a : Int)) (some (b : Int)) = (xs.drop a).take (b - a) := by
  unfold cutV
  rw [HT.sIx_nat, HT.sIx_nat]
  by_cases h : a ≤ xs.length
  · rw [Nat.min_eq_left h]
    by_cases h2 : b ≤ xs.length
    · rw [Nat.min_eq_left h2]
    · rw [Nat.min_eq_right (by omega), List.take_of_length_le (by rw [List.length_drop] <;> omega), List.take_of_length_le (by rw [List.length_drop] <;> omega)]
  · rw [Nat.min_eq_right (show xs.length ≤ a by omega), List.drop_length, List.drop_of_length_le (show xs.length ≤ a by omega), List.take_nil, List.take_nil]
theorem cutV_toI (xs : List V) {i : Int} (h : 0 ≤ i) : cutV xs none (some i) = xs.take i.toNat := by
  have e := cutV_to xs i.toNat
  rw [Int.toNat_of_nonneg h] at e
  exact e
theorem cutV_fromI (xs : List V) {i : Int} (h : 0 ≤ i) : cutV xs (some i) none = xs.drop i.toNat := by
  have e := cutV_from xs i.toNat
  rw [Int.toNat_of_nonneg h] at e
  exact e
theorem cutV_midI (xs : List V) {i j : Int} (h : 0 ≤ i) (h' : 0 ≤ j) : cutV xs (some i) (some j) = (xs.drop i.toNat).take (j.toNat - i.toNat) := by
  have e := cutV_mid xs i.toNat j.toNat
  rw [Int.toNat_of_nonneg h, Int.toNat_of_nonneg h'] at e
  exact e
theorem rep_ints (k : Nat) (n : Int) : (List.replicate k [V.int n]).flatten = (List.replicate k n).map V.int := by
  induction k with
  | zero => rfl
  | succ k ih =>
    rw [List.replicate_succ, List.flatten_cons, ih, List.replicate_succ]
    rfl
theorem z_nb {b : Bool} {A B : Prop} (h1 : b = false → A) (h2 : b = true → B) : if (!b) = true then A else B := by
  cases b with
  | true => exact z_F (h2 rfl)
  | false => exact z_T (h1 rfl)
theorem sum_take_le : ∀ (ns : List Nat) (k : Nat), (ns.take k).sum ≤ ns.sum
  | [], _ => by simp
  | n :: r, 0 => by simp
  | n :: r, k + 1 => by
    rw [List.take_succ_cons, List.sum_cons, List.sum_cons]
    have := sum_take_le r k
    omega
theorem split_len2 (x : Str) : ((Txt.split x "/").map (·.length)).sum + (Txt.split x "/").length ≤ x.length + 1 := PyProof.Rows.split_weight x "/" (by decide)
theorem cutS_from (z : Str) (k : Nat) : (cutS z (some (k : Int)) none).cps.toList = z.cps.toList.drop k := by
  unfold cutS
  rw [HT.sIx_none, HT.sIx_nat]
  have e : z.length = z.cps.toList.length := by
    rw [Array.length_toList]
    rfl
  by_cases h : k ≤ z.length
  · rw [Nat.min_eq_left h, List.take_of_length_le (by rw [List.length_drop] <;> omega)]
  · rw [Nat.min_eq_right (by omega), List.drop_of_length_le (by omega), List.drop_of_length_le (by omega), List.take_nil]
theorem len_tl (z : Str) : z.length = z.cps.toList.length := by
  rw [Array.length_toList]
  rfl
theorem cutS_len (z : Str) (k : Nat) : (cutS z (some (k : Int)) none).length = z.length - k := by
  rw [len_tl, cutS_from, List.length_drop, ← len_tl]
theorem ints_ix {ns : List Int} {i : Nat} {x : V} (h : (ns.map V.int)[i]? = some x) : ∃ n, ns[i]? = some n ∧ x = .int n := by
  rw [List.getElem?_map] at h
  obtain ⟨n, e, rfl⟩ := Option.map_eq_some_iff.mp h
  exact ⟨n, e, rfl⟩
theorem strs_ix {ys : List Str} {i : Nat} {x : V} (h : (ys.map V.str)[i]? = some x) : ∃ n, ys[i]? = some n ∧ x = .str n := by
  rw [List.getElem?_map] at h
  obtain ⟨n, e, rfl⟩ := Option.map_eq_some_iff.mp h
  exact ⟨n, e, rfl⟩
end U
namespace Hd
open PySem PySem.Spec L2
def topS (i : Nat) : Stmt := PySem.Challenge.pw_paritypool_k40_changes.main.body.getD i (.Pass ⟨0, 0, 0, 0⟩)
abbrev s_base_words : Stmt := topS 2
abbrev s_file_change : Stmt := topS 3
abbrev s_changes : Stmt := topS 4
abbrev s__law_pot : Stmt := topS 6
abbrev s__law_next : Stmt := topS 7
abbrev s__law_is_int : Stmt := topS 8
abbrev s__law_word : Stmt := topS 9
abbrev s__law_words : Stmt := topS 10
abbrev s__law_same : Stmt := topS 11
abbrev s__law_path_name : Stmt := topS 12
abbrev s__law_path : Stmt := topS 13
abbrev s__law_tree_call : Stmt := topS 14
abbrev s__law_way : Stmt := topS 15
abbrev s__law_make : Stmt := topS 16
abbrev s__law_file_error : Stmt := topS 17
abbrev s__law_fill : Stmt := topS 18
abbrev s__law_remove : Stmt := topS 19
abbrev s__law_move : Stmt := topS 20
abbrev s__law_changed : Stmt := topS 21
abbrev s__law_weight : Stmt := topS 22
abbrev s__law_twin : Stmt := topS 23
abbrev s__law_table : Stmt := topS 24
abbrev s__law_names : Stmt := topS 25
abbrev s__law_contents : Stmt := topS 26
abbrev s__law_usage : Stmt := topS 27
abbrev s__law_asked : Stmt := topS 28
abbrev s__law_pages : Stmt := topS 29
abbrev s__law_due : Stmt := topS 30
abbrev s__law_copy : Stmt := topS 31
abbrev s_law : Stmt := topS 32
def dd (x : Str) (st : Stmt) : He.DefD := ⟨(x, none), x, x, defArgs st, defBody st, defScope st, [], []⟩
def fn : List He.DefD := [dd "base_words" s_base_words, dd "file_change" s_file_change, dd "changes" s_changes, dd "_law_pot" s__law_pot, dd "_law_next" s__law_next, dd "_law_is_int" s__law_is_int, dd "_law_word" s__law_word, dd "_law_words" s__law_words, dd "_law_same" s__law_same, dd "_law_path_name" s__law_path_name, dd "_law_path" s__law_path, dd "_law_tree_call" s__law_tree_call, dd "_law_way" s__law_way, dd "_law_make" s__law_make, dd "_law_file_error" s__law_file_error, dd "_law_fill" s__law_fill, dd "_law_remove" s__law_remove, dd "_law_move" s__law_move, dd "_law_changed" s__law_changed, dd "_law_weight" s__law_weight, dd "_law_twin" s__law_twin, dd "_law_table" s__law_table, dd "_law_names" s__law_names, dd "_law_contents" s__law_contents, dd "_law_usage" s__law_usage, dd "_law_asked" s__law_asked, dd "_law_pages" s__law_pages, dd "_law_due" s__law_due, dd "_law_copy" s__law_copy, dd "law" s_law]
def fa : List He.Fa := [.glo "base_words", .glo "file_change", .glo "changes", .glo "_law_pot", .glo "_law_next", .glo "_law_is_int", .glo "_law_word", .glo "_law_words", .glo "_law_same", .glo "_law_path_name", .glo "_law_path", .glo "_law_tree_call", .glo "_law_way", .glo "_law_make", .glo "_law_file_error", .glo "_law_fill", .glo "_law_remove", .glo "_law_move", .glo "_law_changed", .glo "_law_weight", .glo "_law_twin", .glo "_law_table", .glo "_law_names", .glo "_law_contents", .glo "_law_usage", .glo "_law_asked", .glo "_law_pages", .glo "_law_due", .glo "_law_copy", .glo "law", .free "len", .free "int", .free "abs", .free "min", .free "max", .free "list", .free "any", .free "all", .free "sum", .free "sorted", .free "isinstance", .free "tuple", .free "range", .free "enumerate", .free "zip", .free "dict", .free "ord", .free "reversed", .free "bool", .free "str", .int "PAGE" 16]
def ts : List He.Tab := []
abbrev R : PySem.W.OpenRow := PySem.W.OpenLaw.row PySem.Challenge.rw_paritypool_k40_changes
abbrev hk : PySem.W.Hook := He.hookT 4 fa fn ts
def ob (s : PySem.W.SharedT) : He.AlT := He.obsTG 4 fa fn ts (HandSHeadRun.getT s)
theorem ob_eq (s : PySem.W.SharedT) : ob s = hk.obs s.abs := He.obsTG_eq (HandSHeadRun.getT_eq s)
def loose : List Str := ["PAGE", "base_words", "file_change", "changes", "_law_pot", "_law_next", "_law_is_int", "_law_word", "_law_words", "_law_same", "_law_path_name", "_law_path", "_law_tree_call", "_law_way", "_law_make", "_law_file_error", "_law_fill", "_law_remove", "_law_move", "_law_changed", "_law_weight", "_law_twin", "_law_table", "_law_names", "_law_contents", "_law_usage", "_law_asked", "_law_pages", "_law_due", "_law_copy"]
theorem run (w : World) : HandSHeadRun.RunEq R (PySem.W.view R.prog [32]) hk ob 8000 loose w := by
  intro os
  kernel_rfl
/-- what stands behind the top -/
structure Tx (w : World) (K : PySem.W.Frag) (mg : Str → Option Value) : Prop where
  says : He.SaysT fa fn ts w K
  at_ : ∃ h : Heap, K.In h ∧ h.Ns mainGlobals mg
section
variable {w : World} {K : PySem.W.Frag} {mg : Str → Option Value}
theorem Tx.glo (T : Tx w K mg) (i : Nat) {x : Str} (h : fa[i]? = some (.glo x) := by rfl) : mg x = some (.ref (He.ga K x)) := by
  obtain ⟨h0, X, G⟩ := T.at_
  exact He.glo_ok X G (T.says.d.fact i h)
theorem Tx.free (T : Tx w K mg) (i : Nat) {x : Str} (h : fa[i]? = some (.free x) := by rfl) : mg x = none := by
  obtain ⟨h0, X, G⟩ := T.at_
  exact He.free_ok X G (T.says.d.fact i h)
theorem Tx.int (T : Tx w K mg) (i : Nat) {x : Str} {z : Int} (h : fa[i]? = some (.int x z) := by rfl) : ∃ t, mg x = some (.int z t) := by
  obtain ⟨h0, X, G⟩ := T.at_
  exact He.int_ok X G (T.says.d.fact i h)
theorem Tx.str (T : Tx w K mg) (i : Nat) {x z : Str} (h : fa[i]? = some (.str x z) := by rfl) : ∃ t, mg x = some (.str z t) := by
  obtain ⟨h0, X, G⟩ := T.at_
  exact He.str_ok X G (T.says.d.fact i h)
theorem Tx.df (T : Tx w K mg) (i j : Nat) {x : Str} {st : Stmt} {ps : List Str} (h : fn[i]? = some (dd x st) := by rfl) (hg : fa[j]? = some (.glo x) := by rfl) : U.DfG K mg x st := by
  obtain ⟨fd, F⟩ := T.says.d.def_ i h
  exact ⟨_, fd, F, T.glo j hg⟩
theorem f_len (T : Tx w K mg) : mg "len" = none := T.free 30
theorem f_int (T : Tx w K mg) : mg "int" = none := T.free 31
theorem f_abs (T : Tx w K mg) : mg "abs" = none := T.free 32
theorem f_min (T : Tx w K mg) : mg "min" = none := T.free 33
theorem f_max (T : Tx w K mg) : mg "max" = none := T.free 34
theorem f_list (T : Tx w K mg) : mg "list" = none := T.free 35
theorem f_any (T : Tx w K mg) : mg "any" = none := T.free 36
theorem f_all (T : Tx w K mg) : mg "all" = none := T.free 37
theorem f_sum (T : Tx w K mg) : mg "sum" = none := T.free 38
theorem f_sorted (T : Tx w K mg) : mg "sorted" = none := T.free 39
theorem f_isinstance (T : Tx w K mg) : mg "isinstance" = none := T.free 40
theorem f_tuple (T : Tx w K mg) : mg "tuple" = none := T.free 41
theorem f_range (T : Tx w K mg) : mg "range" = none := T.free 42
theorem f_enumerate (T : Tx w K mg) : mg "enumerate" = none := T.free 43
theorem f_zip (T : Tx w K mg) : mg "zip" = none := T.free 44
theorem f_dict (T : Tx w K mg) : mg "dict" = none := T.free 45
theorem f_ord (T : Tx w K mg) : mg "ord" = none := T.free 46
theorem f_reversed (T : Tx w K mg) : mg "reversed" = none := T.free 47
theorem f_bool (T : Tx w K mg) : mg "bool" = none := T.free 48
theorem f_str (T : Tx w K mg) : mg "str" = none := T.free 49
theorem c_PAGE (T : Tx w K mg) : ∃ t, mg "PAGE" = some (.int 16 t) := T.int 50
theorem df_base_words (T : Tx w K mg) : U.DfG K mg "base_words" s_base_words := T.df (ps := []) 0 0
theorem df_file_change (T : Tx w K mg) : U.DfG K mg "file_change" s_file_change := T.df (ps := []) 1 1
theorem df_changes (T : Tx w K mg) : U.DfG K mg "changes" s_changes := T.df (ps := []) 2 2
theorem df__law_pot (T : Tx w K mg) : U.DfG K mg "_law_pot" s__law_pot := T.df (ps := []) 3 3
theorem df__law_next (T : Tx w K mg) : U.DfG K mg "_law_next" s__law_next := T.df (ps := []) 4 4
theorem df__law_is_int (T : Tx w K mg) : U.DfG K mg "_law_is_int" s__law_is_int := T.df (ps := []) 5 5
theorem df__law_word (T : Tx w K mg) : U.DfG K mg "_law_word" s__law_word := T.df (ps := []) 6 6
theorem df__law_words (T : Tx w K mg) : U.DfG K mg "_law_words" s__law_words := T.df (ps := []) 7 7
theorem df__law_same (T : Tx w K mg) : U.DfG K mg "_law_same" s__law_same := T.df (ps := []) 8 8
theorem df__law_path_name (T : Tx w K mg) : U.DfG K mg "_law_path_name" s__law_path_name := T.df (ps := []) 9 9
theorem df__law_path (T : Tx w K mg) : U.DfG K mg "_law_path" s__law_path := T.df (ps := []) 10 10
theorem df__law_tree_call (T : Tx w K mg) : U.DfG K mg "_law_tree_call" s__law_tree_call := T.df (ps := []) 11 11
theorem df__law_way (T : Tx w K mg) : U.DfG K mg "_law_way" s__law_way := T.df (ps := []) 12 12
theorem df__law_make (T : Tx w K mg) : U.DfG K mg "_law_make" s__law_make := T.df (ps := []) 13 13
theorem df__law_file_error (T : Tx w K mg) : U.DfG K mg "_law_file_error" s__law_file_error := T.df (ps := []) 14 14
theorem df__law_fill (T : Tx w K mg) : U.DfG K mg "_law_fill" s__law_fill := T.df (ps := []) 15 15
theorem df__law_remove (T : Tx w K mg) : U.DfG K mg "_law_remove" s__law_remove := T.df (ps := []) 16 16
theorem df__law_move (T : Tx w K mg) : U.DfG K mg "_law_move" s__law_move := T.df (ps := []) 17 17
theorem df__law_changed (T : Tx w K mg) : U.DfG K mg "_law_changed" s__law_changed := T.df (ps := []) 18 18
theorem df__law_weight (T : Tx w K mg) : U.DfG K mg "_law_weight" s__law_weight := T.df (ps := []) 19 19
theorem df__law_twin (T : Tx w K mg) : U.DfG K mg "_law_twin" s__law_twin := T.df (ps := []) 20 20
theorem df__law_table (T : Tx w K mg) : U.DfG K mg "_law_table" s__law_table := T.df (ps := []) 21 21
theorem df__law_names (T : Tx w K mg) : U.DfG K mg "_law_names" s__law_names := T.df (ps := []) 22 22
theorem df__law_contents (T : Tx w K mg) : U.DfG K mg "_law_contents" s__law_contents := T.df (ps := []) 23 23
theorem df__law_usage (T : Tx w K mg) : U.DfG K mg "_law_usage" s__law_usage := T.df (ps := []) 24 24
theorem df__law_asked (T : Tx w K mg) : U.DfG K mg "_law_asked" s__law_asked := T.df (ps := []) 25 25
theorem df__law_pages (T : Tx w K mg) : U.DfG K mg "_law_pages" s__law_pages := T.df (ps := []) 26 26
theorem df__law_due (T : Tx w K mg) : U.DfG K mg "_law_due" s__law_due := T.df (ps := []) 27 27
theorem df__law_copy (T : Tx w K mg) : U.DfG K mg "_law_copy" s__law_copy := T.df (ps := []) 28 28
theorem df_law (T : Tx w K mg) : U.DfG K mg "law" s_law := T.df (ps := []) 29 29
end
end Hd
local macro_rules | `(tactic| walk_at "rd") => `(tactic| first | assumption | exact L2.Rd.of (by walk_at "ha") | exact U.Sub.d (by walk_at "sub") (by walk_at "fa"))
local macro_rules | `(tactic| walk_at "dl") => `(tactic| first | assumption | exact Nat.lt_of_lt_of_le (by first | assumption | omega : _ < 100000) (by decide))
local macro_rules | `(tactic| walk_at "fn") => `(tactic| first | assumption | exact U.PotOk.f (by walk_at "pot") | (refine U.Mv.none (by assumption) (by walk_at "nm") (o := .dK _) (by walk_at "ha") ?_; walk_at "fn") | (refine U.Mv.none (by assumption) (by walk_at "nm") (o := .lst _) (by walk_at "ha") ?_; walk_at "fn") | (refine U.Mv.none (by assumption) (by walk_at "nm") (o := .ins _ _ _) (by walk_at "ha") ?_; walk_at "fn"))
local macro_rules | `(tactic| walk_at "len") => `(tactic| first | exact Nat.le_trans (m := 1000) (Nat.le_of_ble_eq_true rfl) (by decide) | exact Nat.le_trans (m := 100000) (by first | assumption | (simp only [List.length_append, List.length_cons, List.length_nil, List.length_map]; omega)) (by decide))
local macro_rules | `(tactic| walk_at "sub") => `(tactic| first | assumption | exact U.Mv.sub (by assumption))
local macro_rules | `(tactic| walk_at "nm") => `(tactic| first | assumption | exact fun z => z | (intro z; subst z; contradiction) | exact Ne.symm (by assumption) | (refine U.Sub.ne (by walk_at "sub") (by walk_at "fa") ?_; first | assumption | exact U.PotOk.f (by walk_at "pot")))
local macro_rules | `(tactic| walk_at "fa") => `(tactic| first | assumption | exact upd_same | (refine U.Mv.app (by assumption) ?_; walk_at "fa"))
local macro_rules | `(tactic| walk_at "ha") => `(tactic| first | assumption | exact U.Sub.l (by walk_at "sub") (by walk_at "fa") | exact U.Sub.t (by walk_at "sub") (by walk_at "fa") | exact U.Sub.i (by walk_at "sub") (by walk_at "fa") | (refine U.Mv.l (by assumption) ?_ ?_ <;> first | walk_at "nm" | walk_at "ha"))
local macro_rules | `(tactic| walk_at "fresh") => `(tactic| first | assumption | (refine U.Mv.fresh (by assumption) ?_; walk_at "fresh"))
local macro_rules | `(tactic| walk_at "mv") => `(tactic| first | assumption | exact U.Mv.self (by walk_at "sub") | (refine U.Mv.step (by assumption) (by first | exact fun _ z => False.elim z | exact fun _ z => Or.inl z | exact fun a e => Or.inr (by rw [e]; walk_at "fresh")) ?_; walk_at "mv"))
local macro_rules | `(tactic| walk_at "pot") => `(tactic| first | assumption | (refine U.PotOk.mv ?_ (by assumption) ?_ <;> first | walk_at "pot" | walk_at "nm"))
local macro_rules | `(tactic| walk_at "num") => `(tactic| first | omega | decide | exact ⟨by first | omega | decide, by first | omega | decide⟩)
local macro_rules | `(tactic| walk_at "st1") => `(tactic| with_reducible first
  | refine U.z_seq ?_ | refine U.z_asg ?_ | refine U.z_op ?_ | refine U.z_cons ?_ | refine U.z_nil ?_ | refine U.z_c ?_
  | refine U.z_name ?_ | refine U.z_cb ?_ | refine U.z_call ?_ | refine U.z_test ?_ | refine U.z_tB ?_ | refine U.z_bl ?_ | refine U.z_if ?_ | refine U.z_ret ?_ | refine U.z_retN ?_ | refine U.z_next ?_
  | refine U.z_un ?_ | refine U.z_tup ?_ | refine U.z_lst ?_ | refine U.z_ife ?_ | refine U.z_and ?_ | refine U.z_or ?_ | refine U.z_not ?_ | refine U.z_andV ?_ | refine U.z_orV ?_ | refine U.z_notV ?_ | refine U.z_isN ?_ | refine U.z_notN ?_
  | refine U.z_drop ?_ | refine U.z_brk ?_ | refine U.z_cont ?_ | refine U.z_gnil ?_ | refine U.z_gcons ?_ | refine U.z_for ?_ | refine U.z_lc ?_ | refine U.z_iL ?_ | refine U.z_iT ?_ | refine U.z_iS ?_ | refine U.z_iR1 ?_ | refine U.z_iR2 ?_ | refine U.z_sl ?_ | refine U.z_no ?_ | refine U.z_part ?_ | refine U.z_pi ?_ | refine U.z_gsub ?_ | refine U.z_yes ?_
  | refine U.z_addI ?_ | refine U.z_I0 ?_ | refine U.z_eqI ?_ | refine U.z_eqS ?_ | refine U.z_neI ?_ | refine U.z_neS ?_ | refine U.z_neg ?_ | refine U.z_bm ?_ | refine U.z_m1 ?_ | refine U.z_isS ?_ | refine U.z_din ?_ | refine U.z_dni ?_ | refine U.z_dget ?_ | refine U.z_dput ?_ | refine U.z_dpop1 ?_ | refine U.z_ddel ?_ | refine U.z_lockLc ?_ | refine U.z_int ?_ | refine U.z_intB ?_ | refine U.z_abs ?_ | refine U.z_min ?_ | refine U.z_max ?_ | refine U.z_fS ?_ | refine U.z_cS ?_ | refine U.z_T ?_ | refine U.z_F ?_)
local macro_rules | `(tactic| walk_at "st2") => `(tactic| first
  | walk_at "st1"
  | ((with_reducible refine' U.z_var ?hv ?_); (case hv => exact rfl))
  | ((with_reducible refine' U.z_mulI ?hv ?_); (case hv => first | exact Or.inr ⟨by decide, by decide⟩ | exact Or.inl ⟨by decide, by decide⟩ | exact Or.inl ⟨by omega, by omega⟩ | exact Or.inr ⟨by omega, by omega⟩))
  | ((with_reducible refine' U.z_fdiv ?hv ?_); (case hv => walk_at "num"))
  | ((with_reducible refine' U.z_mod ?hv ?_); (case hv => walk_at "num"))
  | ((with_reducible refine' U.z_ixL ?ha ?hb ?_); (case ha => walk_at "ha"); (case hb => exact rfl))
  | ((with_reducible refine' U.z_ixT ?ha ?hb ?_); (case ha => walk_at "ha"); (case hb => exact rfl))
  | ((with_reducible refine' U.z_lenL ?ha ?_); (case ha => walk_at "ha"))
  | ((with_reducible refine' U.z_lenT ?ha ?_); (case ha => walk_at "ha"))
  | ((with_reducible refine' U.z_gtup ?hs ?ha ?hn ?_); (case hs => walk_at "sub"); (case ha => walk_at "fa"); (case hn => exact rfl))
  | ((with_reducible refine' U.z_setL ?ha ?hb ?hs ?hf ?_); (case ha => walk_at "ha"); (case hb => exact rfl); (case hs => walk_at "sub"); (case hf => walk_at "fn"); (intro _ _ _ _ _))
  | ((with_reducible refine' U.z_app ?ha ?hb ?hs ?hf ?_); (case ha => walk_at "ha"); (case hb => first | exact Nat.lt_of_lt_of_le (by omega : _ < 100000) (by decide) | (rw [sizeLine_eq]; omega)); (case hs => walk_at "sub"); (case hf => walk_at "fn"); (intro _ _ _ _ _))
  | ((with_reducible refine' U.z_has ?ha ?_); (case ha => walk_at "rd"))
  | ((with_reducible refine' U.z_isD ?ha ?_); (case ha => walk_at "ha"))
  | ((with_reducible refine' U.z_lenD ?ha ?_); (case ha => walk_at "rd"))
  | ((with_reducible refine' U.z_put ?ha ?hb ?hs ?hf ?_); (case ha => walk_at "ha"); (case hb => walk_at "dl"); (case hs => walk_at "sub"); (case hf => walk_at "fn"); (intro _ _ _ _ _))
  | ((with_reducible refine' U.z_tyL ?ha ?_); (case ha => walk_at "ha"))
  | ((with_reducible refine' U.z_newT ?hs ?hl ?_); (case hs => walk_at "sub"); (case hl => walk_at "len"); (intro _ _ _ _ _))
  | ((with_reducible refine' U.z_slL ?ha ?hs ?_); (case ha => walk_at "ha"); (case hs => walk_at "sub"); (intro _ _ _ _ _)))
local macro_rules | `(tactic| walk_at "sj") => `(tactic| repeat ((fail_if_success (with_reducible apply U.is_si)); walk_at "st2"))
local macro_rules | `(tactic| walk_at "sv") => `(tactic| repeat walk_at "st2")
local macro_rules | `(tactic| walk_at "st") => `(tactic| repeat (first
  | walk_at "st2"
  | ((with_reducible refine' U.z_newL1 ?hs ?hl ?_); (case hs => walk_at "sub"); (case hl => walk_at "len"); (intro _ _ _ _ _))))
local macro_rules | `(tactic| walk_at "go") => `(tactic| dsimp only [L2.cxOf, L2.Cx.nox, L2.Cx.wish, L2.Cx.blk, L2.start, List.map_cons, List.map_nil, List.length_cons, List.length_nil, List.replicate, List.cons_append, List.nil_append])
local macro_rules | `(tactic| walk_at "nx") => `(tactic| refine U.next_at (by walk_at "sub") (by walk_at "pot") (by walk_at "num") (by walk_at "num") ?_)
namespace Cm
open PySem PySem.Spec PySem.Calls L2 U Hd
variable {w : World} {K : PySem.W.Frag} {mg : Str → Option Value} {base : Heap}
abbrev Pr : Program := PySem.Challenge.pw_paritypool_k40_changes
theorem sc__law_pot : FnScope ["_law_script", "_law_seed", "_law_cell"] ["_law_script"] (defScope s__law_pot) := ⟨rfl, rfl, rfl, by decide +kernel, rfl, by decide +kernel, by decide +kernel⟩
theorem bd__law_pot (kV doc pm : Value) (an : Option Addr) (cdv ct : Value) : ∀ us : List Value, us.length = (["_law_script"] : List Str).length → bindArgs (PySem.W.fnOf "_law_pot" "_law_pot" (defArgs s__law_pot) (defBody s__law_pot) (defScope s__law_pot) .none kV doc pm an cdv ct) ⟨us, []⟩ = pure ((["_law_script"] : List Str).zip us) :=
  fun us hl => match us, hl with | [_], _ => rfl
theorem sc__law_next : FnScope ["_law_pot_here", "_law_limit", "_law_cell", "_law_found", "_law_mixed"] ["_law_pot_here", "_law_limit"] (defScope s__law_next) := ⟨rfl, rfl, rfl, by decide +kernel, rfl, by decide +kernel, by decide +kernel⟩
theorem bd__law_next (kV doc pm : Value) (an : Option Addr) (cdv ct : Value) : ∀ us : List Value, us.length = (["_law_pot_here", "_law_limit"] : List Str).length → bindArgs (PySem.W.fnOf "_law_next" "_law_next" (defArgs s__law_next) (defBody s__law_next) (defScope s__law_next) .none kV doc pm an cdv ct) ⟨us, []⟩ = pure ((["_law_pot_here", "_law_limit"] : List Str).zip us) :=
  fun us hl => match us, hl with | [_, _], _ => rfl
theorem ok_pot (T : Tx w K mg) : FnG Pr w K mg base CX0 1 "_law_pot" ["_law_script"] (spPot K) := by
  refine okG (df__law_pot T) sc__law_pot bd__law_pot (fun vs H Q E h => ?_) (fun f cdv A outer s H vs Q E hr h => ?_)
  · obtain ⟨_, _, _, rfl, _⟩ := h
    rfl
  · obtain ⟨F, a, ns, rfl, S, hS, hl, k⟩ := h
    refine ⟨_, (pss_cons (ps_set (i := 1) sc__law_pot.nd rfl (by first | exact Or.inl rfl | exact Or.inr rfl) pe_int) (pss_cons (ps_for PassesOwn.never rfl (pi_list (pv 0)) (pg_name (i := 2) sc__law_pot.nd rfl (by first | exact Or.inl rfl | exact Or.inr rfl)) (pss_one (ps_set (i := 1) sc__law_pot.nd rfl (by first | exact Or.inl rfl | exact Or.inr rfl) (pe_op op_mod (ub_int (f_int T) (pa_cons (pe_op (uAdd : OpR _ _ (rAddU K)) (pe_op uMul (pv 1) pe_int) (pv 2)) pa_nil)) pe_int)))) (pss_one (ps_ret (pe_lst (pa_cons (ub_list (f_list T) (pa_cons (pv 0) pa_nil) : PE _ _ (tCB (rListU K) _)) (pa_cons pe_int (pa_cons pe_int (pa_cons (pv 1) pa_nil))))))))), ?_⟩
    walk_at "go"
    walk_at "st"
    refine z_fL hS (for_W walk_list (fun i σ H1 => ∃ (z : Int) (c : Option V) (F1 : Hp), σ = [some (.ref a), some (.int z), c] ∧ 0 ≤ z ∧ z < 2147483647 ∧ Mv N0 F H F1 H1 ∧ SqL K H1 a (ns.map V.int)) ⟨1, _, F, rfl, by omega, by omega, Mv.self S, hS⟩ (fun i σ H1 _ ⟨z, c, F1, _, _, _, g, h⟩ => h) ?_ ?_)
    · rintro i x σ H1 H2 hi ⟨z, c, F1, rfl, h0, h1, g, h⟩ ⟨rfl, hx⟩
      obtain ⟨u, rfl⟩ : ∃ u, x = V.int u := by
        rw [List.getElem?_map] at hx
        cases e : ns[i]? with
        | none =>
          rw [e] at hx
          cases hx
        | some u =>
          rw [e] at hx
          exact ⟨u, (Option.some.inj hx).symm⟩
      walk_at "st"
      exact ⟨_, _, F1, rfl, by omega, by omega, g, h⟩
    · rintro σ H1 ⟨z, c, F1, rfl, h0, h1, g, h⟩
      walk_at "st"
      refine z_listL h g.sub fun l F2 H2 g2 hl2 => ?_
      walk_at "sv"
      refine z_newLV g2.sub (by walk_at "len") fun p F3 H3 g3 f3 n3 h3 => ?_
      exact k p F3 H3 (by walk_at "mv") (by walk_at "fresh") ⟨f3, l, 0, 0, z, ns, h3, by walk_at "fa", by omega, by omega, by omega, h0, h1⟩
theorem ok_next (T : Tx w K mg) : FnG Pr w K mg base CX0 1 "_law_next" ["_law_pot_here", "_law_limit"] spNext := by
  refine okG (df__law_next T) sc__law_next bd__law_next (fun vs H Q E h => ?_) (fun f cdv A outer s H vs Q E hr h => ?_)
  · obtain ⟨_, _, _, rfl, _⟩ := h
    rfl
  · obtain ⟨F, p, n, rfl, S, P, n0, n1, k⟩ := h
    refine ⟨_, (pss_cons (ps_if (PW.pt (pw_and (pt_cmpR (uEq hr.units : OpR _ _ (rEqU K)) (pe_ix (ix_seq : IxR _ (rIx K)) (pv 0) pe_int (fun _ _ => rfl)) pe_int (nomark _)) (pw_and1 (pt_cmpR op_lt (pe_ix (ix_seq : IxR _ (rIx K)) (pv 0) pe_int (fun _ _ => rfl)) (ub_len (f_len T) (pa_cons (pe_ix (ix_seq : IxR _ (rIx K)) (pv 0) pe_int (fun _ _ => rfl)) pa_nil) : PE _ _ (tCB (rLenU K) _)) (nomark _))))) (pss_cons (ps_set (i := 2) sc__law_next.nd rfl (by first | exact Or.inl rfl | exact Or.inr rfl) (ub_abs (f_abs T) (pa_cons (ub_int (f_int T) (pa_cons (pe_ix (ix_seq : IxR _ (rIx K)) (pe_ix (ix_seq : IxR _ (rIx K)) (pv 0) pe_int (fun _ _ => rfl)) (pe_ix (ix_seq : IxR _ (rIx K)) (pv 0) pe_int (fun _ _ => rfl)) (fun _ _ => rfl)) pa_nil)) pa_nil))) (pss_cons (ps_asg (pe_op (uAdd : OpR _ _ (rAddU K)) (pe_ix (ix_seq : IxR _ (rIx K)) (pv 0) pe_int (fun _ _ => rfl)) pe_int) (pg_sub (pv 0) pe_int set_list)) (pss_cons (ps_if (pt_cmpR op_lt (pv 2) (pe_op op_pow pe_int pe_int) (nomark _)) (pss_one (ps_ret (pe_op op_mod (ub_int (f_int T) (pa_cons (pv 2) pa_nil)) (pv 1)))) pss_nil) (pss_one (ps_asg (pv 2) (pg_sub (pv 0) pe_int set_list)))))) pss_nil) (pss_cons (ps_if (pt_cmpR op_gt (pe_ix (ix_seq : IxR _ (rIx K)) (pv 0) pe_int (fun _ _ => rfl)) pe_int (nomark _)) (pss_cons (ps_set (i := 3) sc__law_next.nd rfl (by first | exact Or.inl rfl | exact Or.inr rfl) (pe_op op_mod (ub_int (f_int T) (pa_cons (pe_ix (ix_seq : IxR _ (rIx K)) (pv 0) pe_int (fun _ _ => rfl)) pa_nil)) (pv 1))) (pss_cons (ps_asg (pe_op op_fdiv (pe_ix (ix_seq : IxR _ (rIx K)) (pv 0) pe_int (fun _ _ => rfl)) (pv 1)) (pg_sub (pv 0) pe_int set_list)) (pss_one (ps_ret (pv 3))))) pss_nil) (pss_cons (ps_asg (pe_op op_mod (ub_int (f_int T) (pa_cons (pe_op (uAdd : OpR _ _ (rAddU K)) (pe_op uMul (pe_ix (ix_seq : IxR _ (rIx K)) (pv 0) pe_int (fun _ _ => rfl)) pe_int) pe_int) pa_nil)) pe_int) (pg_sub (pv 0) pe_int set_list)) (pss_cons (ps_set (i := 4) sc__law_next.nd rfl (by first | exact Or.inl rfl | exact Or.inr rfl) (pe_op op_mod (ub_int (f_int T) (pa_cons (pe_op (uAdd : OpR _ _ (rAddU K)) (pe_op uMul (pe_ix (ix_seq : IxR _ (rIx K)) (pv 0) pe_int (fun _ _ => rfl)) pe_int) (pe_op op_fdiv (pe_ix (ix_seq : IxR _ (rIx K)) (pv 0) pe_int (fun _ _ => rfl)) pe_int)) pa_nil)) pe_int)) (pss_one (ps_ret (pe_op op_mod (ub_int (f_int T) (pa_cons (pv 4) pa_nil)) (pv 1)))))))), ?_⟩
    walk_at "go"
    obtain ⟨fp, l, at_, big, seed, ns, hp, hl, hn, a0, b0, s0, s1⟩ := P
    refine z_seqJ (fun σ' H1 => ∃ (F1 : Hp) (at1 big1 : Int) (c : Option V), σ' = [some (.ref p), some (.int n), c, none, none] ∧ Mv (Mp p) F H F1 H1 ∧ F1 p = none ∧ H1 p = some (.lst [.ref l, .int at1, .int big1, .int seed]) ∧ 0 ≤ at1 ∧ 0 ≤ big1) ?_ (fun N hN => ?_)
    · rintro σ' H1 ⟨F1, at1, big1, c, rfl, g1, f1, h1, a1, b1⟩
      walk_at "st"
      refine z_dec (fun e0 => ?_) (fun e0 => ?_)
      · walk_at "st"
        have e1 := Int.emod_nonneg big1 (show n ≠ 0 by omega)
        have e2 := Int.emod_lt_of_pos big1 n0
        refine k _ _ _ e1 e2 (by walk_at "mv") ⟨by assumption, l, _, _, _, ns, by assumption, by walk_at "fa", hn, by omega, Int.ediv_nonneg b1 (by omega), by omega, by omega⟩
      · walk_at "st"
        exact k _ _ _ (Int.emod_nonneg _ (by omega)) (Int.emod_lt_of_pos _ n0) (by walk_at "mv") ⟨by assumption, l, _, _, _, ns, by assumption, by walk_at "fa", hn, by omega, by omega, by omega, by omega⟩
    walk_at "st"
    refine z_dec (fun e0 => ?_) (fun e0 => ?_)
    · walk_at "st"
      refine z_dec (fun e1 => ?_) (fun e1 => ?_)
      · walk_at "st"
        obtain ⟨u, hu⟩ : ∃ u, ns[at_.toNat]? = some u := by
          have q : at_.toNat < ns.length := by
            rw [List.length_map] at e1
            omega
          exact ⟨_, List.getElem?_eq_getElem q⟩
        refine z_ixL (by walk_at "ha") (atI_of a0 (by rw [List.getElem?_map, hu] <;> rfl)) ?_
        walk_at "st"
        refine z_I (by refine ⟨by decide, by decide, by decide⟩) ?_
        walk_at "st"
        generalize hz : (if u < 0 then -u else u) = z
        have hz0 : 0 ≤ z := by
          rw [← hz]
          split <;> omega
        refine z_dec (fun e2 => ?_) (fun e2 => ?_)
        · walk_at "st"
          exact k _ _ _ (Int.emod_nonneg _ (by omega)) (Int.emod_lt_of_pos _ n0) (by walk_at "mv") ⟨by assumption, l, _, _, _, ns, by assumption, by walk_at "fa", hn, by omega, by omega, by omega, by omega⟩
        · walk_at "st"
          exact hN _ _ ⟨_, _, _, _, rfl, by walk_at "mv", by assumption, by assumption, by omega, by omega⟩
      · walk_at "st"
        exact hN _ _ ⟨F, _, _, _, rfl, by walk_at "mv", by assumption, by assumption, by omega, by omega⟩
    · walk_at "st"
      exact hN _ _ ⟨F, _, _, _, rfl, by walk_at "mv", by assumption, by assumption, by omega, by omega⟩
end Cm
namespace Cm
open PySem PySem.Spec PySem.Calls L2 U Hd
variable {w : World} {K : PySem.W.Frag} {mg : Str → Option Value} {base : Heap}
theorem sc__law_word : FnScope ["_law_pot_here", "_law_kind"] ["_law_pot_here"] (defScope s__law_word) := ⟨rfl, rfl, rfl, by decide +kernel, rfl, by decide +kernel, by decide +kernel⟩
theorem bd__law_word (kV doc pm : Value) (an : Option Addr) (cdv ct : Value) : ∀ us : List Value, us.length = (["_law_pot_here"] : List Str).length → bindArgs (PySem.W.fnOf "_law_word" "_law_word" (defArgs s__law_word) (defBody s__law_word) (defScope s__law_word) .none kV doc pm an cdv ct) ⟨us, []⟩ = pure ((["_law_pot_here"] : List Str).zip us) :=
  fun us hl => match us, hl with | [_], _ => rfl
theorem sc__law_words : FnScope ["_law_pot_here", "_law_count", "_law_k"] ["_law_pot_here", "_law_count"] (defScope s__law_words) := ⟨rfl, rfl, rfl, by decide +kernel, rfl, by decide +kernel, by decide +kernel⟩
theorem bd__law_words (kV doc pm : Value) (an : Option Addr) (cdv ct : Value) : ∀ us : List Value, us.length = (["_law_pot_here", "_law_count"] : List Str).length → bindArgs (PySem.W.fnOf "_law_words" "_law_words" (defArgs s__law_words) (defBody s__law_words) (defScope s__law_words) .none kV doc pm an cdv ct) ⟨us, []⟩ = pure ((["_law_pot_here", "_law_count"] : List Str).zip us) :=
  fun us hl => match us, hl with | [_, _], _ => rfl
def spWord : Sp := fun vs H Q _ => ∃ (F : Hp) (p : Addr), vs = [.ref p] ∧ Sub F H ∧ PotOk F H p ∧ ∀ (r : Int) (F' H' : Hp), 0 ≤ r → r < 65521 → Mv (Mp p) F H F' H' → PotOk F' H' p → Q (.int r) H'
theorem ok_word (T : Tx w K mg) : FnG Pr w K mg base CX0 2 "_law_word" ["_law_pot_here"] spWord := by
  have G__law_next : FnG Pr w K mg base CX0 1 "_law_next" ["_law_pot_here", "_law_limit"] spNext := ok_next T
  refine okG (df__law_word T) sc__law_word bd__law_word (fun vs H Q E h => ?_) (fun f cdv A outer s H vs Q E hr h => ?_)
  · obtain ⟨_, _, rfl, _⟩ := h
    rfl
  · obtain ⟨F, p, rfl, S, P, k⟩ := h
    refine ⟨_, (pss_cons (ps_set (i := 1) sc__law_word.nd rfl (by first | exact Or.inl rfl | exact Or.inr rfl) (pe_callG G__law_next (hr.mono (by first | decide | omega)) (by rfl) pass0 (pa_cons (pv 0) (pa_cons pe_int pa_nil)))) (pss_cons (ps_if (pt_cmpR (uEq hr.units : OpR _ _ (rEqU K)) (pv 1) pe_int (nomark _)) (pss_one (ps_ret pe_int)) pss_nil) (pss_cons (ps_if (pt_cmpR (uEq hr.units : OpR _ _ (rEqU K)) (pv 1) pe_int (nomark _)) (pss_one (ps_ret (pe_op op_sub pe_int (pe_callG G__law_next (hr.mono (by first | decide | omega)) (by rfl) pass0 (pa_cons (pv 0) (pa_cons pe_int pa_nil)))))) pss_nil) (pss_cons (ps_if (pt_cmpR op_lt (pv 1) pe_int (nomark _)) (pss_one (ps_ret (pe_callG G__law_next (hr.mono (by first | decide | omega)) (by rfl) pass0 (pa_cons (pv 0) (pa_cons pe_int pa_nil))))) pss_nil) (pss_one (ps_ret (pe_callG G__law_next (hr.mono (by first | decide | omega)) (by rfl) pass0 (pa_cons (pv 0) (pa_cons pe_int pa_nil))))))))), ?_⟩
    walk_at "go"
    walk_at "st"
    walk_at "nx"
    intro r F1 H1 r0 r1 g1 P1
    walk_at "st"
    refine z_dec (fun e1 => ?_) (fun e1 => ?_)
    · walk_at "st"
      exact k _ F1 H1 (by omega) (by omega) (by walk_at "mv") P1
    · walk_at "st"
      refine z_dec (fun e2 => ?_) (fun e2 => ?_)
      · walk_at "st"
        walk_at "nx"
        intro r2 F2 H2 q0 q1 g2 P2
        walk_at "st"
        exact k _ F2 H2 (by omega) (by omega) (by walk_at "mv") P2
      · walk_at "st"
        refine z_dec (fun e3 => ?_) (fun e3 => ?_)
        · walk_at "st"
          walk_at "nx"
          intro r2 F2 H2 q0 q1 g2 P2
          exact k _ F2 H2 (by omega) (by omega) (by walk_at "mv") P2
        · walk_at "st"
          walk_at "nx"
          intro r2 F2 H2 q0 q1 g2 P2
          exact k _ F2 H2 (by omega) (by omega) (by walk_at "mv") P2
/-- ints from 0 to 65520 -/
def Wds (ns : List Int) : Prop := ∀ n ∈ ns, 0 ≤ n ∧ n < 65521
def spWords : Sp := fun vs H Q _ => ∃ (F : Hp) (p : Addr) (c : Int), vs = [.ref p, .int c] ∧ Sub F H ∧ PotOk F H p ∧ 0 ≤ c ∧ c ≤ 5000 ∧
  ∀ (a : Addr) (ns : List Int) (F' H' : Hp), ns.length = c.toNat → Wds ns → Mv (Mp p) F H F' H' → PotOk F' H' p → F' a = some (.lst (ns.map V.int)) → Q (.ref a) H'
theorem ok_words (T : Tx w K mg) : FnG Pr w K mg base CX0 3 "_law_words" ["_law_pot_here", "_law_count"] spWords := by
  have G__law_word : FnG Pr w K mg base CX0 2 "_law_word" ["_law_pot_here"] spWord := ok_word T
  refine okG (df__law_words T) sc__law_words bd__law_words (fun vs H Q E h => ?_) (fun f cdv A outer s H vs Q E hr h => ?_)
  · obtain ⟨_, _, _, rfl, _⟩ := h
    rfl
  · obtain ⟨F, p, c, rfl, S, P, c0, c1, k⟩ := h
    refine ⟨_, (pss_one (ps_ret (pe_lc (own := [("_law_k", 2)]) rfl sc__law_words.nd (pi_range1 (by rfl) (f_range T) (pa_cons (pv 1) pa_nil)) (blkOk_by (N := ["_law_pot_here", "_law_count", "_law_k"]) (sc := defScope s__law_words) (by decide +kernel)) (fun _ _ _ _ _ => (pg_name (i := 2) sc__law_words.nd rfl (by first | exact Or.inl rfl | exact Or.inr rfl))) (fun _ _ _ _ _ => pts_nil) (fun _ _ _ _ _ => (pe_callG G__law_word (hr.mono (by first | decide | omega)) (by rfl) pass0 (pa_cons (pv 0) pa_nil)))))), ?_⟩
    walk_at "go"
    walk_at "st"
    refine z_cR1 (by omega) (by omega) (lc_W (M := Mp p) S walk_range (fun i F1 H1 acc => PotOk F1 H1 p ∧ ∃ ns : List Int, acc = ns.map V.int ∧ ns.length = i ∧ Wds ns) ?_ ⟨P, [], rfl, rfl, fun n h => by cases h⟩ (fun _ _ _ _ _ _ _ => trivial) ?_ (by omega) ?_ (fun a e => by rw [e]; exact P.al) ?_)
    · rintro i F1 H1 acc D H2 hD g1 ⟨P1, r⟩ g2
      exact ⟨P1.mv g2 (fun e => by rw [← e] at hD; obtain ⟨o, ho⟩ := P.al; rw [hD] at ho; cases ho), r⟩
    · rintro i F1 H1 acc ⟨_, ns, rfl, hl, _⟩
      rw [List.length_map]
      omega
    · rintro i x F1 H1 H1' acc Kk Kn hi g1 ⟨P1, ns, rfl, hl, hw⟩ ⟨rfl, rfl⟩ hK hN
      walk_at "st"
      refine ⟨rfl, ?_⟩
      walk_at "st"
      refine ⟨F1, p, rfl, g1.sub, P1, fun r F2 H2 r0 r1 g2 P2 => ?_⟩
      refine hK _ F2 H2 g2 ⟨P2, ns ++ [r], by simp, by simp [hl], fun n hn => ?_⟩
      rcases List.mem_append.mp hn with q | q
      · exact hw n q
      · rw [List.mem_singleton.mp q]
        exact ⟨r0, r1⟩
    · rintro D F1 H1 F' acc hD g1 ⟨P1, ns, rfl, hl, hw⟩ g2 h2
      exact k D ns F' H1 hl hw (g2.step (fun a e => .inr (by rw [e]; exact hD)) g1) (P1.mv g2 fun e => by rw [← e] at hD; obtain ⟨o, ho⟩ := P.al; rw [hD] at ho; cases ho) h2
end Cm
namespace Cm
open PySem PySem.Spec PySem.Calls L2 U
/-! ### tables: paths and contents -/
abbrev Cnt := Option (List Int)
abbrev Tab := List (Str × Cnt)
def CntV (F : Hp) (v : V) : Cnt → Prop
  | none => v = .non
  | some ns => ∃ a, v = .ref a ∧ F a = some (.lst (ns.map V.int))
def EntV (F : Hp) (kv : Key × V) (e : Str × Cnt) : Prop := kv.1 = .inr e.1 ∧ CntV F kv.2 e.2
def TabE (F : Hp) (kvs : List (Key × V)) (t : Tab) : Prop := Paired (EntV F) kvs t
def aget {α : Type} (t : List (Str × α)) (p : Str) : Option α := (t.find? fun e => decide (e.1 = p)).map (·.2)
def aput {α : Type} (t : List (Str × α)) (p : Str) (c : α) : List (Str × α) := if (t.any fun e => decide (e.1 = p)) = true then t.map (fun e => if e.1 = p then (e.1, c) else e) else t ++ [(p, c)]
def adel {α : Type} (t : List (Str × α)) (p : Str) : List (Str × α) := t.filter fun e => decide (e.1 ≠ p)
section
variable {F F' : Hp} {kvs : List (Key × V)} {t : Tab} {p q : Str} {v : V} {c : Cnt}
theorem CntV.mono (h : CntV F v c) (e : ∀ b o, F b = some o → F' b = some o) : CntV F' v c := by
  cases c with
  | none => exact h
  | some ns =>
    obtain ⟨a, h1, h2⟩ := h
    exact ⟨a, h1, e _ _ h2⟩
theorem TabE.mono (h : TabE F kvs t) (e : ∀ b o, F b = some o → F' b = some o) : TabE F' kvs t := Paired.mapP h fun _ _ z => ⟨z.1, z.2.mono e⟩
theorem TabE.mv {M : Addr → Prop} {H H' : Hp} (h : TabE F kvs t) (g : Mv M F H F' H') : TabE F' kvs t := h.mono g.ext
theorem key_dec (a b : Str) : decide ((Sum.inr a : Key) = Sum.inr b) = decide (a = b) := key_rr a b
theorem TabE.get (h : TabE F kvs t) (p : Str) : (aget t p = none ∧ valV kvs (.inr p) = none) ∨ ∃ c v, aget t p = some c ∧ valV kvs (.inr p) = some v ∧ CntV F v c := by
  unfold TabE at h
  induction h with
  | nil => exact .inl ⟨rfl, rfl⟩
  | @cons kv e kvs t r _ ih =>
    obtain ⟨k, v⟩ := kv
    obtain ⟨e1, c⟩ := e
    obtain ⟨r1, r2⟩ := r
    dsimp only at r1 r2
    subst r1
    by_cases z : e1 = p
    · subst z
      exact .inr ⟨c, v, by simp [aget], by rw [valV_pos rfl], r2⟩
    · have z' : ¬ (Sum.inr e1 : Key) = Sum.inr p := fun y => z (Sum.inr.inj y)
      rw [valV_neg z']
      have y : aget ((e1, c) :: t) p = aget t p := by simp [aget, List.find?_cons, z]
      rw [y]
      exact ih
theorem TabE.any (h : TabE F kvs t) (p : Str) : (kvs.any fun kv => decide (kv.1 = .inr p)) = (t.any fun e => decide (e.1 = p)) := by
  unfold TabE at h
  induction h with
  | nil => rfl
  | @cons kv e kvs t r _ ih =>
    rw [List.any_cons, List.any_cons, ih, r.1, key_dec]
theorem TabE.put (h : TabE F kvs t) (hv : CntV F v c) (p : Str) : TabE F (putK kvs (.inr p) v) (aput t p c) := by
  unfold putK aput
  rw [h.any p]
  by_cases z : (t.any fun e => decide (e.1 = p)) = true
  · rw [if_pos z, if_pos z]
    clear z
    unfold TabE at h ⊢
    induction h with
    | nil => exact .nil
    | @cons kv e kvs t r _ ih =>
      rw [List.map_cons, List.map_cons]
      refine .cons ?_ ih
      rw [r.1]
      by_cases y : e.1 = p
      · rw [if_pos (by rw [y]), if_pos y]
        exact ⟨rfl, hv⟩
      · rw [if_neg (fun w => y (Sum.inr.inj w)), if_neg y]
        exact ⟨r.1, r.2⟩
  · rw [if_neg z, if_neg z]
    clear z
    unfold TabE at h ⊢
    induction h with
    | nil => exact .cons ⟨rfl, hv⟩ .nil
    | cons r _ ih => exact .cons r ih
theorem TabE.del (h : TabE F kvs t) (p : Str) : TabE F (dropK kvs (.inr p)) (adel t p) := by
  unfold dropK adel
  unfold TabE at h ⊢
  induction h with
  | nil => exact .nil
  | @cons kv e kvs t r _ ih =>
    rw [List.filter_cons, List.filter_cons]
    have y : decide (kv.1 ≠ .inr p) = decide (e.1 ≠ p) := by
      rw [r.1]
      by_cases z : e.1 = p
      · simp [z]
      · simp [z]
    rw [y]
    by_cases z : decide (e.1 ≠ p) = true
    · rw [if_pos z, if_pos z]
      exact .cons r ih
    · rw [if_neg z, if_neg z]
      exact ih
theorem TabE.length (h : TabE F kvs t) : kvs.length = t.length := Paired.length h
theorem TabE.keys (h : TabE F kvs t) : kvs.map (·.1) = (t.map (·.1)).map Sum.inr := by
  unfold TabE at h
  induction h with
  | nil => rfl
  | cons r _ ih =>
    rw [List.map_cons, List.map_cons, List.map_cons, ih, r.1]
theorem TabE.ix (h : TabE F kvs t) {i : Nat} {kv : Key × V} (e : kvs[i]? = some kv) : ∃ x, t[i]? = some x ∧ EntV F kv x := by
  unfold TabE at h
  induction h generalizing i with
  | nil => simp at e
  | @cons kv0 e0 kvs t r _ ih =>
    cases i with
    | zero =>
      simp at e
      subst e
      exact ⟨e0, by simp, r⟩
    | succ i => simpa using ih (by simpa using e)
end
section
variable {α : Type} {t : List (Str × α)} {p q : Str} {c : α}
theorem aget_none : aget t p = none ↔ p ∉ t.map (·.1) := by
  unfold aget
  rw [Option.map_eq_none_iff, List.find?_eq_none]
  constructor
  · intro h m
    obtain ⟨e, he, rfl⟩ := List.mem_map.mp m
    exact absurd (h e he) (by simp)
  · intro h e he
    have : e.1 ≠ p := fun z => h (List.mem_map.mpr ⟨e, he, z⟩)
    simpa using this
theorem aget_mem (h : aget t p = some c) : (p, c) ∈ t := by
  unfold aget at h
  obtain ⟨e, h1, rfl⟩ := Option.map_eq_some_iff.mp h
  have h2 := List.find?_some h1
  have h3 := List.mem_of_find?_eq_some h1
  have h4 : e.1 = p := by simpa using h2
  rw [← h4]
  exact h3
theorem aput_keys : (aput t p c).map (·.1) = if p ∈ t.map (·.1) then t.map (·.1) else t.map (·.1) ++ [p] := by
  unfold aput
  by_cases h : p ∈ t.map (·.1)
  · have z : (t.any fun e => decide (e.1 = p)) = true := by
      obtain ⟨e, he, q⟩ := List.mem_map.mp h
      exact List.any_eq_true.mpr ⟨e, he, decide_eq_true q⟩
    rw [if_pos z, if_pos h, List.map_map]
    refine List.map_congr_left fun e _ => ?_
    show (if e.1 = p then (e.1, c) else e).1 = e.1
    split <;> rfl
  · have z : ¬ (t.any fun e => decide (e.1 = p)) = true := fun y => by
      obtain ⟨e, he, q⟩ := List.any_eq_true.mp y
      exact h (List.mem_map.mpr ⟨e, he, of_decide_eq_true q⟩)
    rw [if_neg z, if_neg h, List.map_append]
    rfl
theorem aput_nodup (h : (t.map (·.1)).Nodup) : ((aput t p c).map (·.1)).Nodup := by
  rw [aput_keys]
  split
  · exact h
  · rename_i n
    exact nd_snoc h n
theorem aput_mem {e : Str × α} (h : e ∈ aput t p c) : e = (p, c) ∨ e ∈ t := by
  unfold aput at h
  split at h
  · obtain ⟨x, hx, q⟩ := List.mem_map.mp h
    by_cases z : x.1 = p
    · rw [if_pos z] at q
      rw [← q, z]
      exact .inl rfl
    · rw [if_neg z] at q
      rw [← q]
      exact .inr hx
  · rcases List.mem_append.mp h with y | y
    · exact .inr y
    · exact .inl (List.mem_singleton.mp y)
theorem aput_length : (aput t p c).length ≤ t.length + 1 := by
  unfold aput
  split
  · rw [List.length_map]
    omega
  · rw [List.length_append, List.length_singleton]
    omega
theorem adel_nodup (h : (t.map (·.1)).Nodup) : ((adel t p).map (·.1)).Nodup := h.sublist (List.Sublist.map _ List.filter_sublist)
theorem adel_mem {e : Str × α} (h : e ∈ adel t p) : e ∈ t := (List.mem_filter.mp h).1
theorem adel_length : (adel t p).length ≤ t.length := List.length_filter_le _ _
theorem adel_has (n : q ≠ p) (h : q ∈ t.map (·.1)) : q ∈ (adel t p).map (·.1) := by
  obtain ⟨e, he, rfl⟩ := List.mem_map.mp h
  exact List.mem_map.mpr ⟨e, List.mem_filter.mpr ⟨he, by simpa using n⟩, rfl⟩
theorem aput_has (h : q ∈ t.map (·.1)) : q ∈ (aput t p c).map (·.1) := by
  rw [aput_keys]
  split
  · exact h
  · exact List.mem_append_left _ h
end
/-- what every table keeps to -/
structure TabOk (t : Tab) : Prop where
  nd : (t.map (·.1)).Nodup
  key : ∀ e ∈ t, e.1.length ≤ 60
  len : ∀ e ∈ t, ∀ ns, e.2 = some ns → ns.length ≤ 5000
theorem TabOk.nil : TabOk [] := ⟨List.nodup_nil, fun e h => (List.not_mem_nil h).elim, fun e h => (List.not_mem_nil h).elim⟩
theorem TabOk.put {t : Tab} {p : Str} {c : Cnt} (h : TabOk t) (hp : p.length ≤ 60) (hc : ∀ ns, c = some ns → ns.length ≤ 5000) : TabOk (aput t p c) :=
  ⟨aput_nodup h.nd, fun e he => by
    rcases aput_mem he with q | q
    · rw [q]
      exact hp
    · exact h.key e q, fun e he => by
    rcases aput_mem he with q | q
    · rw [q]
      exact hc
    · exact h.len e q⟩
theorem TabOk.del {t : Tab} {p : Str} (h : TabOk t) : TabOk (adel t p) := ⟨adel_nodup h.nd, fun e he => h.key e (adel_mem he), fun e he => h.len e (adel_mem he)⟩
theorem TabOk.get {t : Tab} {p : Str} {ns : List Int} (h : TabOk t) (e : aget t p = some (some ns)) : ns.length ≤ 5000 := h.len _ (aget_mem e) ns rfl
/-- a finished table at t -/
def TabF (F : Hp) (a : Addr) (t : Tab) : Prop := ∃ kvs, F a = some (.dK kvs) ∧ TabE F kvs t ∧ TabOk t ∧ t.length ≤ 1000
theorem TabF.mv {M : Addr → Prop} {F H F' H' : Hp} {a : Addr} {t : Tab} (h : TabF F a t) (g : Mv M F H F' H') : TabF F' a t := by
  obtain ⟨kvs, h1, h2, h3, h4⟩ := h
  exact ⟨kvs, g.ext _ _ h1, h2.mv g, h3, h4⟩
/-- a table in the making -/
def TabV (F H : Hp) (a : Addr) (t : Tab) : Prop := F a = none ∧ ∃ kvs, H a = some (.dK kvs) ∧ TabE F kvs t ∧ TabOk t
theorem TabV.mv {M : Addr → Prop} {F H F' H' : Hp} {a : Addr} {t : Tab} (h : TabV F H a t) (g : Mv M F H F' H') (n : ¬ M a) : TabV F' H' a t := by
  obtain ⟨f, kvs, h1, h2, h3⟩ := h
  exact ⟨(g.fr a _ n h1).trans f, kvs, g.kp _ _ n h1, h2.mv g, h3⟩
theorem atI_mem {α : Type} {xs : List α} {i : Int} (h0 : 0 ≤ i) (h1 : i < xs.length) : ∃ v, v ∈ xs ∧ atI xs i = some v := by
  have q : i.toNat < xs.length := by omega
  exact ⟨xs[i.toNat], List.getElem_mem q, atI_of h0 (List.getElem?_eq_getElem q)⟩
end Cm
namespace Cm
open PySem PySem.Spec PySem.Calls L2 U Hd
variable {w : World} {K : PySem.W.Frag} {mg : Str → Option Value} {base : Heap}
theorem sc__law_path_name : FnScope ["_law_pot_here", "_law_kind", "_law_letters", "_law_k"] ["_law_pot_here"] (defScope s__law_path_name) := ⟨rfl, rfl, rfl, by decide +kernel, rfl, by decide +kernel, by decide +kernel⟩
theorem bd__law_path_name (kV doc pm : Value) (an : Option Addr) (cdv ct : Value) : ∀ us : List Value, us.length = (["_law_pot_here"] : List Str).length → bindArgs (PySem.W.fnOf "_law_path_name" "_law_path_name" (defArgs s__law_path_name) (defBody s__law_path_name) (defScope s__law_path_name) .none kV doc pm an cdv ct) ⟨us, []⟩ = pure ((["_law_pot_here"] : List Str).zip us) :=
  fun us hl => match us, hl with | [_], _ => rfl
theorem sc__law_path : FnScope ["_law_pot_here", "_law_table_here", "_law_kind", "_law_known", "_law_path_here", "_law_name"] ["_law_pot_here", "_law_table_here"] (defScope s__law_path) := ⟨rfl, rfl, rfl, by decide +kernel, rfl, by decide +kernel, by decide +kernel⟩
theorem bd__law_path (kV doc pm : Value) (an : Option Addr) (cdv ct : Value) : ∀ us : List Value, us.length = (["_law_pot_here", "_law_table_here"] : List Str).length → bindArgs (PySem.W.fnOf "_law_path" "_law_path" (defArgs s__law_path) (defBody s__law_path) (defScope s__law_path) .none kV doc pm an cdv ct) ⟨us, []⟩ = pure ((["_law_pot_here", "_law_table_here"] : List Str).zip us) :=
  fun us hl => match us, hl with | [_, _], _ => rfl
def spPName : Sp := fun vs H Q _ => ∃ (F : Hp) (p : Addr), vs = [.ref p] ∧ Sub F H ∧ PotOk F H p ∧ ∀ (s : Str) (F' H' : Hp), s.length ≤ 12 → Mv (Mp p) F H F' H' → PotOk F' H' p → Q (.str s) H'
theorem ones_sum : ∀ {ys : List Str}, (∀ y ∈ ys, y.length = 1) → (ys.map (·.length)).sum = ys.length
  | [], _ => rfl
  | y :: r, h => by
    rw [List.map_cons, List.sum_cons, List.length_cons, h y (List.mem_cons_self ..), ones_sum fun z hz => h z (List.mem_cons_of_mem _ hz)]
    omega
theorem ok_pname (T : Tx w K mg) : FnG Pr w K mg base CX0 2 "_law_path_name" ["_law_pot_here"] spPName := by
  have G__law_next : FnG Pr w K mg base CX0 1 "_law_next" ["_law_pot_here", "_law_limit"] spNext := ok_next T
  refine okG (df__law_path_name T) sc__law_path_name bd__law_path_name (fun vs H Q E h => ?_) (fun f cdv A outer s H vs Q E hr h => ?_)
  · obtain ⟨_, _, rfl, _⟩ := h
    rfl
  · obtain ⟨F, p, rfl, S, P, k⟩ := h
    refine ⟨_, (pss_cons (ps_set (i := 1) sc__law_path_name.nd rfl (by first | exact Or.inl rfl | exact Or.inr rfl) (pe_callG G__law_next (hr.mono (by first | decide | omega)) (by rfl) pass0 (pa_cons (pv 0) (pa_cons pe_int pa_nil)))) (pss_cons (ps_if (pt_cmpR (uEq hr.units : OpR _ _ (rEqU K)) (pv 1) pe_int (nomark _)) (pss_cons (ps_set (i := 2) sc__law_path_name.nd rfl (by first | exact Or.inl rfl | exact Or.inr rfl) pe_str) (pss_one (ps_ret (pe_join pe_str (pe_lc (own := [("_law_k", 3)]) rfl sc__law_path_name.nd (pi_range1 (by rfl) (f_range T) (pa_cons (pe_op (uAdd : OpR _ _ (rAddU K)) pe_int (pe_callG G__law_next (hr.mono (by first | decide | omega)) (by rfl) pass0 (pa_cons (pv 0) (pa_cons pe_int pa_nil)))) pa_nil)) (blkOk_by (N := ["_law_pot_here", "_law_kind", "_law_letters", "_law_k"]) (sc := defScope s__law_path_name) (by decide +kernel)) (fun _ _ _ _ _ => (pg_name (i := 3) sc__law_path_name.nd rfl (by first | exact Or.inl rfl | exact Or.inr rfl))) (fun _ _ _ _ _ => pts_nil) (fun _ _ _ _ _ => (pe_ix (ix_seq : IxR _ (rIx K)) (pv 2) (pe_callG G__law_next (hr.mono (by first | decide | omega)) (by rfl) pass0 (pa_cons (pv 0) (pa_cons pe_int pa_nil))) (fun _ _ => rfl)))))))) pss_nil) (pss_one (ps_ret (pe_ix (ix_seq : IxR _ (rIx K)) (pe_lst (pa_cons pe_str (pa_cons pe_str (pa_cons pe_str (pa_cons pe_str (pa_cons pe_str (pa_cons pe_str (pa_cons pe_str pa_nil)))))))) (pv 1) (fun _ _ => rfl)))))), ?_⟩
    walk_at "go"
    walk_at "st"
    walk_at "nx"
    intro r F1 H1 r0 r1 g1 P1
    walk_at "st"
    refine z_dec (fun e1 => ?_) (fun e1 => ?_)
    · walk_at "st"
      walk_at "nx"
      intro r2 F2 H2 q0 q1 g2 P2
      walk_at "st"
      refine z_cR1 (by omega) (by omega) (lc_W (M := Mp p) g2.sub walk_range (fun i F1 H1 acc => PotOk F1 H1 p ∧ ∃ ys : List Str, acc = ys.map V.str ∧ ys.length = i ∧ ∀ y ∈ ys, y.length = 1) ?_ ⟨P2, [], rfl, rfl, fun n h => by cases h⟩ (fun _ _ _ _ _ _ _ => trivial) ?_ (by omega) ?_ (fun a e => by rw [e]; exact P2.al) ?_)
      · rintro i F1 H1 acc D H2 hD g1 ⟨P1, r⟩ g2
        exact ⟨P1.mv g2 (fun e => by rw [← e] at hD; obtain ⟨o, ho⟩ := P2.al; rw [hD] at ho; cases ho), r⟩
      · rintro i F1 H1 acc ⟨_, ns, rfl, hl, _⟩
        rw [List.length_map]
        omega
      · rintro i x F1 H1 H1' acc Kk Kn hi g1 ⟨P1, ys, rfl, hl, hw⟩ ⟨rfl, rfl⟩ hK hN
        walk_at "st"
        refine ⟨rfl, ?_⟩
        walk_at "st"
        walk_at "nx"
        intro r3 F3 H3 t0 t1 g3 P3
        obtain ⟨c, _, hc⟩ := atI_mem (xs := ("abz019-" : Str).cps.toList) (i := r3) t0 t1
        refine z_ixS (by walk_at "len") hc ?_
        refine hK _ F3 H3 g3 ⟨P3, ys ++ [⟨#[c]⟩], by simp, by simp [hl], fun n hn => ?_⟩
        rcases List.mem_append.mp hn with q | q
        · exact hw n q
        · rw [List.mem_singleton.mp q]
          rfl
      · rintro D F3 H3 F4 acc hD g3 ⟨P3, ys, rfl, hl, hw⟩ g4 h4
        have hs := ones_sum hw
        have hb : (ys.map (·.length)).sum + ys.length * ("" : Str).length ≤ 16777216 := by
          rw [hs, show ("" : Str).length = 0 from rfl]
          omega
        refine ⟨_, D, ys, rfl, rfl, .inl (SqL.of (g4.sub.l h4)), hb, ?_⟩
        refine k _ F4 H3 ?_ (g4.step (fun a e => .inr (by rw [e]; exact g1.fresh (g2.fresh hD))) (g3.step (fun a z => .inl z) (g2.step (fun a z => .inl z) g1))) (P3.mv g4 fun e => by rw [← e] at hD; obtain ⟨o, ho⟩ := P2.al; rw [hD] at ho; cases ho)
        have z : (Txt.join "" ys).length = (ys.map (·.length)).sum + (ys.length - 1) * ("" : Str).length := size_glued "" ys
        rw [z, hs, show ("" : Str).length = 0 from rfl]
        omega
    · walk_at "st"
      obtain ⟨v, hm, hv⟩ := atI_mem (xs := [V.str "a", V.str "b", V.str "c", V.str "ab", V.str "a-1", V.str "a0", V.str "bbbbbbbbbbbb"]) (i := r) r0 (by show r < 7; omega)
      refine z_ixL (by walk_at "ha") hv ?_
      simp only [List.mem_cons, List.not_mem_nil, or_false] at hm
      rcases hm with rfl | rfl | rfl | rfl | rfl | rfl | rfl <;> exact k _ _ _ (by decide) (by walk_at "mv") (by walk_at "pot")
end Cm
namespace Cm
open PySem PySem.Spec PySem.Calls L2 U Hd
variable {w : World} {K : PySem.W.Frag} {mg : Str → Option Value} {base : Heap}
def spPath : Sp := fun vs H Q _ => ∃ (F : Hp) (p t : Addr) (tb : Tab), vs = [.ref p, .ref t] ∧ Sub F H ∧ PotOk F H p ∧ TabF F t tb ∧ ∀ (s : Str) (F' H' : Hp), s.length ≤ 60 → Mv (Mp p) F H F' H' → PotOk F' H' p → Q (.str s) H'
theorem ok_path (T : Tx w K mg) : FnG Pr w K mg base CX0 3 "_law_path" ["_law_pot_here", "_law_table_here"] spPath := by
  have G__law_next : FnG Pr w K mg base CX0 1 "_law_next" ["_law_pot_here", "_law_limit"] spNext := ok_next T
  have G__law_path_name : FnG Pr w K mg base CX0 2 "_law_path_name" ["_law_pot_here"] spPName := ok_pname T
  refine okG (df__law_path T) sc__law_path bd__law_path (fun vs H Q E h => ?_) (fun f cdv A outer s H vs Q E hr h => ?_)
  · obtain ⟨_, _, _, _, rfl, _⟩ := h
    rfl
  · obtain ⟨F, p, t, tb, rfl, S, P, ⟨kvs, ht, hE, hO, hn⟩, k⟩ := h
    refine ⟨_, (pss_cons (ps_set (i := 2) sc__law_path.nd rfl (by first | exact Or.inl rfl | exact Or.inr rfl) (pe_callG G__law_next (hr.mono (by first | decide | omega)) (by rfl) pass0 (pa_cons (pv 0) (pa_cons pe_int pa_nil)))) (pss_cons (ps_if (pt_cmpR (uEq hr.units : OpR _ _ (rEqU K)) (pv 2) pe_int (nomark _)) (pss_one (ps_ret pe_str)) pss_nil) (pss_cons (ps_set (i := 3) sc__law_path.nd rfl (by first | exact Or.inl rfl | exact Or.inr rfl) (U.ub_sortedD (f_sorted T) (pa_cons (pv 1) pa_nil))) (pss_cons (ps_set (i := 4) sc__law_path.nd rfl (by first | exact Or.inl rfl | exact Or.inr rfl) pe_str) (pss_cons (ps_if (PW.pt (pw_and (pt_cmpR op_gt (ub_len (f_len T) (pa_cons (pv 3) pa_nil) : PE _ _ (tCB (rLenU K) _)) pe_int (nomark _)) (pw_and1 (pt_cmpR op_gt (pv 2) pe_int (nomark _))))) (pss_cons (ps_set (i := 4) sc__law_path.nd rfl (by first | exact Or.inl rfl | exact Or.inr rfl) (pe_ix (ix_seq : IxR _ (rIx K)) (pv 3) (pe_callG G__law_next (hr.mono (by first | decide | omega)) (by rfl) pass0 (pa_cons (pv 0) (pa_cons (ub_len (f_len T) (pa_cons (pv 3) pa_nil) : PE _ _ (tCB (rLenU K) _)) pa_nil))) (fun _ _ => rfl))) (pss_one (ps_if (pt_cmpR op_gt (pv 2) pe_int (nomark _)) (pss_one (ps_ret (pv 4))) pss_nil))) pss_nil) (pss_cons (ps_set (i := 5) sc__law_path.nd rfl (by first | exact Or.inl rfl | exact Or.inr rfl) (pe_callG G__law_path_name (hr.mono (by first | decide | omega)) (by rfl) pass0 (pa_cons (pv 0) pa_nil))) (pss_cons (ps_if (PW.pt (pw_and (pt_cmpR (uNe hr.units : OpR _ _ (rNeU K)) (pv 4) pe_str (nomark _)) (pw_and1 (pt_cmpR op_le (pe_op (uAdd : OpR _ _ (rAddU K)) (pe_op (uAdd : OpR _ _ (rAddU K)) (ub_len (f_len T) (pa_cons (pv 4) pa_nil) : PE _ _ (tCB (rLenU K) _)) pe_int) (ub_len (f_len T) (pa_cons (pv 5) pa_nil) : PE _ _ (tCB (rLenU K) _))) pe_int (nomark _))))) (pss_one (ps_ret (pe_op (uAdd : OpR _ _ (rAddU K)) (pe_op (uAdd : OpR _ _ (rAddU K)) (pv 4) pe_str) (pv 5)))) pss_nil) (pss_one (ps_ret (pv 5)))))))))), ?_⟩
    walk_at "go"
    walk_at "st"
    walk_at "nx"
    intro r F1 H1 r0 r1 g1 P1
    walk_at "st"
    refine z_dec (fun e1 => ?_) (fun e1 => ?_)
    · walk_at "st"
      exact k _ F1 H1 (by decide) (by walk_at "mv") P1
    · walk_at "st"
      refine z_sortD (by walk_at "rd") hE.keys (by walk_at "sub") fun ys hp hso l F2 H2 g2 hl => ?_
      have P2 : PotOk F2 H2 p := by walk_at "pot"
      have short : ∀ y ∈ ys, y.length ≤ 60 := fun y hy => by
        obtain ⟨e, he, q⟩ := List.mem_map.mp (hp.mem_iff.mp hy)
        rw [← q]
        exact hO.key e he
      have hlen : ys.length ≤ 1000 := by
        rw [hp.length_eq, List.length_map]
        exact hn
      walk_at "sj"
      refine z_seqJ (fun σ' H3 => ∃ (F3 : Hp) (x : Str), σ' = [some (.ref p), some (.ref t), some (.int r), some (.ref l), some (.str x), none] ∧ x.length ≤ 60 ∧ Mv (Mp p) F H F3 H3 ∧ PotOk F3 H3 p) ?_ (fun N hN => ?_)
      · rintro σ' H3 ⟨F3, x, rfl, hx, g3, P3⟩
        walk_at "st"
        refine ⟨F3, p, rfl, g3.sub, P3, fun z F4 H4 hz g4 P4 => ?_⟩
        walk_at "st"
        refine z_ndec (fun e2 => ?_) (fun e2 => ?_)
        · walk_at "st"
          refine z_lenS (by show x.length ≤ sizeLine; rw [sizeLine_eq]; omega) ?_
          walk_at "st"
          refine z_lenS (by show z.length ≤ sizeLine; rw [sizeLine_eq]; omega) ?_
          walk_at "st"
          refine z_dec (fun e3 => ?_) (fun e3 => ?_)
          · walk_at "st"
            refine z_addS (by show x.length + 1 ≤ sizeLine; rw [sizeLine_eq]; omega) ?_
            walk_at "st"
            have hl1 : (x ++ "/" : Str).length = x.length + 1 := PySem.Str.length_append x "/"
            refine z_addS (by rw [hl1, sizeLine_eq]; omega) ?_
            refine k _ F4 H4 ?_ (by walk_at "mv") P4
            have hl2 : (x ++ "/" ++ z : Str).length = (x ++ "/" : Str).length + z.length := PySem.Str.length_append _ z
            rw [hl2, hl1]
            omega
          · walk_at "st"
            exact k _ F4 H4 (by omega) (by walk_at "mv") P4
        · walk_at "st"
          exact k _ F4 H4 (by omega) (by walk_at "mv") P4
      · walk_at "st"
        refine z_dec (fun e2 => ?_) (fun e2 => ?_)
        · walk_at "st"
          refine z_dec (fun e3 => ?_) (fun e3 => ?_)
          · rw [List.length_map] at e2
            walk_at "st"
            refine U.next_at (by walk_at "sub") (by walk_at "pot") (by rw [List.length_map]; exact e2) (by rw [List.length_map]; omega) ?_
            intro r2 F3 H3 q0 q1 g3 P3
            obtain ⟨v, hm, hv⟩ := atI_mem (xs := ys.map V.str) (i := r2) q0 q1
            obtain ⟨y, hy, rfl⟩ := List.mem_map.mp hm
            have hy60 := short y hy
            refine z_ixL (by walk_at "ha") hv ?_
            walk_at "st"
            refine z_dec (fun e4 => ?_) (fun e4 => ?_)
            · walk_at "st"
              exact k _ F3 H3 hy60 (by walk_at "mv") P3
            · walk_at "st"
              exact hN _ _ ⟨F3, y, rfl, hy60, by walk_at "mv", P3⟩
          · walk_at "st"
            exact hN _ _ ⟨F2, _, rfl, by decide, by walk_at "mv", P2⟩
        · walk_at "st"
          exact hN _ _ ⟨F2, _, rfl, by decide, by walk_at "mv", P2⟩
end Cm
namespace Cm
open PySem PySem.Spec PySem.Calls L2 U Hd
variable {w : World} {K : PySem.W.Frag} {mg : Str → Option Value} {base : Heap}
theorem sc__law_tree_call : FnScope ["_law_pot_here", "_law_table_here", "_law_kind", "_law_path_here", "_law_at", "_law_words_here"] ["_law_pot_here", "_law_table_here"] (defScope s__law_tree_call) := ⟨rfl, rfl, rfl, by decide +kernel, rfl, by decide +kernel, by decide +kernel⟩
theorem bd__law_tree_call (kV doc pm : Value) (an : Option Addr) (cdv ct : Value) : ∀ us : List Value, us.length = (["_law_pot_here", "_law_table_here"] : List Str).length → bindArgs (PySem.W.fnOf "_law_tree_call" "_law_tree_call" (defArgs s__law_tree_call) (defBody s__law_tree_call) (defScope s__law_tree_call) .none kV doc pm an cdv ct) ⟨us, []⟩ = pure ((["_law_pot_here", "_law_table_here"] : List Str).zip us) :=
  fun us hl => match us, hl with | [_, _], _ => rfl
theorem sc__law_way : FnScope ["_law_table_here", "_law_path_here", "_law_parts", "_law_k", "_law_above"] ["_law_table_here", "_law_path_here"] (defScope s__law_way) := ⟨rfl, rfl, rfl, by decide +kernel, rfl, by decide +kernel, by decide +kernel⟩
theorem bd__law_way (kV doc pm : Value) (an : Option Addr) (cdv ct : Value) : ∀ us : List Value, us.length = (["_law_table_here", "_law_path_here"] : List Str).length → bindArgs (PySem.W.fnOf "_law_way" "_law_way" (defArgs s__law_way) (defBody s__law_way) (defScope s__law_way) .none kV doc pm an cdv ct) ⟨us, []⟩ = pure ((["_law_table_here", "_law_path_here"] : List Str).zip us) :=
  fun us hl => match us, hl with | [_, _], _ => rfl
theorem sc__law_make : FnScope ["_law_table_here", "_law_name", "_law_path_here", "_law_way_here"] ["_law_table_here", "_law_name", "_law_path_here"] (defScope s__law_make) := ⟨rfl, rfl, rfl, by decide +kernel, rfl, by decide +kernel, by decide +kernel⟩
theorem bd__law_make (kV doc pm : Value) (an : Option Addr) (cdv ct : Value) : ∀ us : List Value, us.length = (["_law_table_here", "_law_name", "_law_path_here"] : List Str).length → bindArgs (PySem.W.fnOf "_law_make" "_law_make" (defArgs s__law_make) (defBody s__law_make) (defScope s__law_make) .none kV doc pm an cdv ct) ⟨us, []⟩ = pure ((["_law_table_here", "_law_name", "_law_path_here"] : List Str).zip us) :=
  fun us hl => match us, hl with | [_, _, _], _ => rfl
theorem sc__law_file_error : FnScope ["_law_table_here", "_law_path_here", "_law_way_here"] ["_law_table_here", "_law_path_here"] (defScope s__law_file_error) := ⟨rfl, rfl, rfl, by decide +kernel, rfl, by decide +kernel, by decide +kernel⟩
theorem bd__law_file_error (kV doc pm : Value) (an : Option Addr) (cdv ct : Value) : ∀ us : List Value, us.length = (["_law_table_here", "_law_path_here"] : List Str).length → bindArgs (PySem.W.fnOf "_law_file_error" "_law_file_error" (defArgs s__law_file_error) (defBody s__law_file_error) (defScope s__law_file_error) .none kV doc pm an cdv ct) ⟨us, []⟩ = pure ((["_law_table_here", "_law_path_here"] : List Str).zip us) :=
  fun us hl => match us, hl with | [_, _], _ => rfl
/-- a drawn call on a tree -/
inductive TCall (F : Hp) : List V → Prop
  | mk {s : Str} (h : s.length ≤ 60) : TCall F [.str "make_directory", .str s]
  | cr {s : Str} (h : s.length ≤ 60) : TCall F [.str "create", .str s]
  | rm {s : Str} (h : s.length ≤ 60) : TCall F [.str "remove", .str s]
  | wr {s : Str} {i : Int} {a : Addr} {ns : List Int} (h : s.length ≤ 60) (h0 : 0 ≤ i) (h1 : i + ns.length ≤ 4096) (ha : F a = some (.lst (ns.map V.int))) (hw : Wds ns) : TCall F [.str "write", .str s, .int i, .ref a]
  | tr {s : Str} {i : Int} (h : s.length ≤ 60) (h0 : 0 ≤ i) (h1 : i ≤ 4096) : TCall F [.str "truncate", .str s, .int i]
  | mv {s t : Str} (h : s.length ≤ 60) (h' : t.length ≤ 60) : TCall F [.str "rename", .str s, .str t]
  | cp {s t : Str} (h : s.length ≤ 60) (h' : t.length ≤ 60) : TCall F [.str "copy", .str s, .str t]
theorem TCall.ext {M : Addr → Prop} {F H F' H' : Hp} {vs : List V} (h : TCall F vs) (g : Mv M F H F' H') : TCall F' vs := by
  cases h with
  | mk h => exact .mk h
  | cr h => exact .cr h
  | rm h => exact .rm h
  | wr h h0 h1 ha hw => exact .wr h h0 h1 (g.ext _ _ ha) hw
  | tr h h0 h1 => exact .tr h h0 h1
  | mv h h' => exact .mv h h'
  | cp h h' => exact .cp h h'
def spTCall : Sp := fun vs H Q _ => ∃ (F : Hp) (p t : Addr) (tb : Tab), vs = [.ref p, .ref t] ∧ Sub F H ∧ PotOk F H p ∧ TabF F t tb ∧ ∀ (c : Addr) (cs : List V) (F' H' : Hp), Mv (Mp p) F H F' H' → PotOk F' H' p → F' c = some (.tup cs) → TCall F' cs → Q (.ref c) H'
theorem ok_tcall (T : Tx w K mg) : FnG Pr w K mg base CX0 4 "_law_tree_call" ["_law_pot_here", "_law_table_here"] spTCall := by
  have G__law_next : FnG Pr w K mg base CX0 1 "_law_next" ["_law_pot_here", "_law_limit"] spNext := ok_next T
  have G__law_path : FnG Pr w K mg base CX0 3 "_law_path" ["_law_pot_here", "_law_table_here"] spPath := ok_path T
  have G__law_words : FnG Pr w K mg base CX0 3 "_law_words" ["_law_pot_here", "_law_count"] spWords := ok_words T
  refine okG (df__law_tree_call T) sc__law_tree_call bd__law_tree_call (fun vs H Q E h => ?_) (fun f cdv A outer s H vs Q E hr h => ?_)
  · obtain ⟨_, _, _, _, rfl, _⟩ := h
    rfl
  · obtain ⟨F, p, t, tb, rfl, S, P, hT, k⟩ := h
    refine ⟨_, (pss_cons (ps_set (i := 2) sc__law_tree_call.nd rfl (by first | exact Or.inl rfl | exact Or.inr rfl) (pe_callG G__law_next (hr.mono (by first | decide | omega)) (by rfl) pass0 (pa_cons (pv 0) (pa_cons pe_int pa_nil)))) (pss_cons (ps_set (i := 3) sc__law_tree_call.nd rfl (by first | exact Or.inl rfl | exact Or.inr rfl) (pe_callG G__law_path (hr.mono (by first | decide | omega)) (by rfl) pass0 (pa_cons (pv 0) (pa_cons (pv 1) pa_nil)))) (pss_cons (ps_if (pt_cmpR op_lt (pv 2) pe_int (nomark _)) (pss_one (ps_ret (pe_tup (pa_cons pe_str (pa_cons (pv 3) pa_nil))))) pss_nil) (pss_cons (ps_if (pt_cmpR op_lt (pv 2) pe_int (nomark _)) (pss_one (ps_ret (pe_tup (pa_cons pe_str (pa_cons (pv 3) pa_nil))))) pss_nil) (pss_cons (ps_if (pt_cmpR op_lt (pv 2) pe_int (nomark _)) (pss_cons (ps_set (i := 4) sc__law_tree_call.nd rfl (by first | exact Or.inl rfl | exact Or.inr rfl) (pe_callG G__law_next (hr.mono (by first | decide | omega)) (by rfl) pass0 (pa_cons (pv 0) (pa_cons pe_int pa_nil)))) (pss_cons (ps_set (i := 5) sc__law_tree_call.nd rfl (by first | exact Or.inl rfl | exact Or.inr rfl) (pe_callG G__law_words (hr.mono (by first | decide | omega)) (by rfl) pass0 (pa_cons (pv 0) (pa_cons (pe_callG G__law_next (hr.mono (by first | decide | omega)) (by rfl) pass0 (pa_cons (pv 0) (pa_cons pe_int pa_nil))) pa_nil)))) (pss_cons (ps_if (pt_cmpR (uEq hr.units : OpR _ _ (rEqU K)) (pe_callG G__law_next (hr.mono (by first | decide | omega)) (by rfl) pass0 (pa_cons (pv 0) (pa_cons pe_int pa_nil))) pe_int (nomark _)) (pss_one (ps_set (i := 4) sc__law_tree_call.nd rfl (by first | exact Or.inl rfl | exact Or.inr rfl) (pe_op op_sub (pe_op op_sub pe_int (ub_len (f_len T) (pa_cons (pv 5) pa_nil) : PE _ _ (tCB (rLenU K) _))) (pe_callG G__law_next (hr.mono (by first | decide | omega)) (by rfl) pass0 (pa_cons (pv 0) (pa_cons pe_int pa_nil)))))) pss_nil) (pss_one (ps_ret (pe_tup (pa_cons pe_str (pa_cons (pv 3) (pa_cons (pv 4) (pa_cons (pv 5) pa_nil)))))))))) pss_nil) (pss_cons (ps_if (pt_cmpR (uEq hr.units : OpR _ _ (rEqU K)) (pv 2) pe_int (nomark _)) (pss_one (ps_ret (pe_tup (pa_cons pe_str (pa_cons (pv 3) (pa_cons (pe_ix (ix_seq : IxR _ (rIx K)) (pe_lst (pa_cons (pe_callG G__law_next (hr.mono (by first | decide | omega)) (by rfl) pass0 (pa_cons (pv 0) (pa_cons pe_int pa_nil))) (pa_cons pe_int pa_nil))) (ub_int (f_int T) (pa_cons (pe_cmpR (uEq hr.units : OpR _ _ (rEqU K)) (pe_callG G__law_next (hr.mono (by first | decide | omega)) (by rfl) pass0 (pa_cons (pv 0) (pa_cons pe_int pa_nil))) pe_int (nomark _)) pa_nil)) (fun _ _ => rfl)) pa_nil)))))) pss_nil) (pss_cons (ps_if (pt_cmpR (uEq hr.units : OpR _ _ (rEqU K)) (pv 2) pe_int (nomark _)) (pss_one (ps_ret (pe_tup (pa_cons pe_str (pa_cons (pv 3) pa_nil))))) pss_nil) (pss_cons (ps_if (pt_cmpR op_lt (pv 2) pe_int (nomark _)) (pss_one (ps_ret (pe_tup (pa_cons pe_str (pa_cons (pv 3) (pa_cons (pe_callG G__law_path (hr.mono (by first | decide | omega)) (by rfl) pass0 (pa_cons (pv 0) (pa_cons (pv 1) pa_nil))) pa_nil)))))) pss_nil) (pss_one (ps_ret (pe_tup (pa_cons pe_str (pa_cons (pv 3) (pa_cons (pe_callG G__law_path (hr.mono (by first | decide | omega)) (by rfl) pass0 (pa_cons (pv 0) (pa_cons (pv 1) pa_nil))) pa_nil)))))))))))))), ?_⟩
    walk_at "go"
    walk_at "st"
    walk_at "nx"
    intro r F1 H1 r0 r1 g1 P1
    walk_at "st"
    refine ⟨F1, p, t, tb, rfl, g1.sub, P1, hT.mv g1, fun x F2 H2 hx g2 P2 => ?_⟩
    have hT2 : TabF F2 t tb := (hT.mv g1).mv g2
    walk_at "st"
    refine z_dec (fun e1 => ?_) (fun e1 => ?_)
    · walk_at "st"
      exact k _ _ _ _ (by walk_at "mv") (by walk_at "pot") (by walk_at "fa") (.mk hx)
    walk_at "st"
    refine z_dec (fun e2 => ?_) (fun e2 => ?_)
    · walk_at "st"
      exact k _ _ _ _ (by walk_at "mv") (by walk_at "pot") (by walk_at "fa") (.cr hx)
    walk_at "st"
    refine z_dec (fun e3 => ?_) (fun e3 => ?_)
    · walk_at "st"
      walk_at "nx"
      intro r2 F3 H3 q0 q1 g3 P3
      walk_at "st"
      walk_at "nx"
      intro r3 F4 H4 t0 t1 g4 P4
      refine ⟨F4, p, r3, rfl, g4.sub, P4, by omega, by omega, fun a ns F5 H5 hl hw g5 P5 ha => ?_⟩
      walk_at "st"
      walk_at "nx"
      intro r4 F6 H6 u0 u1 g6 P6
      walk_at "st"
      refine z_dec (fun e4 => ?_) (fun e4 => ?_)
      · walk_at "st"
        rw [List.length_map]
        walk_at "nx"
        intro r5 F7 H7 w0 w1 g7 P7
        walk_at "st"
        exact k _ _ _ _ (by walk_at "mv") (by walk_at "pot") (by walk_at "fa") (.wr (i := 4096 - (ns.length : Int) - r5) (ns := ns) hx (by omega) (by omega) (by walk_at "fa") hw)
      · walk_at "st"
        exact k _ _ _ _ (by walk_at "mv") (by walk_at "pot") (by walk_at "fa") (.wr (i := r2) (ns := ns) hx (by omega) (by omega) (by walk_at "fa") hw)
    walk_at "st"
    refine z_dec (fun e4 => ?_) (fun e4 => ?_)
    · walk_at "st"
      walk_at "nx"
      intro r2 F3 H3 q0 q1 g3 P3
      walk_at "st"
      walk_at "nx"
      intro r3 F4 H4 t0 t1 g4 P4
      walk_at "st"
      by_cases e5 : r3 = 15
      · rw [decide_eq_true e5]
        refine z_ixL (by walk_at "ha") (v := .int 4096) rfl ?_
        walk_at "st"
        exact k _ _ _ _ (by walk_at "mv") (by walk_at "pot") (by walk_at "fa") (.tr (i := 4096) hx (by omega) (by omega))
      · rw [decide_eq_false e5]
        refine z_ixL (by walk_at "ha") (v := .int r2) rfl ?_
        walk_at "st"
        exact k _ _ _ _ (by walk_at "mv") (by walk_at "pot") (by walk_at "fa") (.tr (i := r2) hx (by omega) (by omega))
    walk_at "st"
    refine z_dec (fun e5 => ?_) (fun e5 => ?_)
    · walk_at "st"
      exact k _ _ _ _ (by walk_at "mv") (by walk_at "pot") (by walk_at "fa") (.rm hx)
    walk_at "st"
    refine z_dec (fun e6 => ?_) (fun e6 => ?_)
    · walk_at "st"
      refine ⟨F2, p, t, tb, rfl, g2.sub, P2, hT2, fun y F3 H3 hy g3 P3 => ?_⟩
      walk_at "st"
      exact k _ _ _ _ (by walk_at "mv") (by walk_at "pot") (by walk_at "fa") (.mv hx hy)
    · walk_at "st"
      refine ⟨F2, p, t, tb, rfl, g2.sub, P2, hT2, fun y F3 H3 hy g3 P3 => ?_⟩
      walk_at "st"
      exact k _ _ _ _ (by walk_at "mv") (by walk_at "pot") (by walk_at "fa") (.cp hx hy)
end Cm
namespace Cm
open PySem PySem.Spec PySem.Calls L2 U Hd
variable {w : World} {K : PySem.W.Frag} {mg : Str → Option Value} {base : Heap}
def spWay : Sp := fun vs H Q _ => ∃ (F : Hp) (t : Addr) (p : Str) (kvs : List (Key × V)) (tb : Tab), vs = [.ref t, .str p] ∧ Sub F H ∧ Rd H t (.dK kvs) ∧ TabE F kvs tb ∧ p.length ≤ 60 ∧ ∀ (r : Str) (F' H' : Hp), Mv N0 F H F' H' → Q (.str r) H'
theorem rd_keep {M : Addr → Prop} {F H F' H' : Hp} {a : Addr} {o : HO} (h : Rd H a o) (g : Mv M F H F' H') (n : ¬ M a) : Rd H' a o := by
  rcases h with h | ⟨ob, h⟩
  · exact .inl (g.kp _ _ n h)
  · exact .inr ⟨ob, g.kp _ _ n h⟩
theorem ok_way (T : Tx w K mg) : FnG Pr w K mg base CX0 1 "_law_way" ["_law_table_here", "_law_path_here"] spWay := by
  refine okG (df__law_way T) sc__law_way bd__law_way (fun vs H Q E h => ?_) (fun f cdv A outer s H vs Q E hr h => ?_)
  · obtain ⟨_, _, _, _, _, rfl, _⟩ := h
    rfl
  · obtain ⟨F, t, p, kvs, tb, rfl, S, hd, hE, hp, k⟩ := h
    refine ⟨_, (pss_cons (ps_set (i := 2) sc__law_way.nd rfl (by first | exact Or.inl rfl | exact Or.inr rfl) (pe_split (pv 1) pe_str)) (pss_cons (ps_for PassesOwn.never rfl (pi_range2 (by rfl) (f_range T) (pa_cons pe_int (pa_cons (ub_len (f_len T) (pa_cons (pv 2) pa_nil) : PE _ _ (tCB (rLenU K) _)) pa_nil))) (pg_name (i := 3) sc__law_way.nd rfl (by first | exact Or.inl rfl | exact Or.inr rfl)) (pss_cons (ps_set (i := 4) sc__law_way.nd rfl (by first | exact Or.inl rfl | exact Or.inr rfl) (pe_join pe_str (pe_slice (uSl : SlR _ (rSlU K)) (pv 2) po_none (po_some (pv 3))))) (pss_cons (ps_if (pt_cmp (pc_dnotin (hu_of hr) (pv 4) (pv 0))) (pss_one (ps_ret pe_str)) pss_nil) (pss_one (ps_if (pt_cmp (pc_notN (pe_dget (hu_of hr) (pv 0) (pv 4) (fun _ _ => rfl)))) (pss_one (ps_ret pe_str)) pss_nil))))) (pss_one (ps_ret pe_str)))), ?_⟩
    walk_at "go"
    walk_at "st"
    have hw := split_len2 p
    refine z_split rfl (by rw [sizeLine_eq]; omega) S fun l F1 H1 g1 hl => ?_
    walk_at "st"
    refine z_fR2 (by rw [List.length_map]; omega) (for_W walk_range (fun i σ H2 => ∃ (F2 : Hp) (a b : Option V), σ = [some (.ref t), some (.str p), some (.ref l), a, b] ∧ Mv N0 F1 H1 F2 H2) ⟨F1, _, _, rfl, Mv.self g1.sub⟩ (fun _ _ _ _ _ => trivial) ?_ ?_)
    · rintro i x σ H2 H2' hi ⟨F2, a, b, rfl, g2⟩ ⟨rfl, rfl⟩
      walk_at "st"
      rw [show (1 + (i : Int)) = ((1 + i : Nat) : Int) by omega] at *
      rename_i lp F3 H3 g3 h3
      rw [cutV_to] at h3
      have e3 : ((Txt.split p "/").map V.str).take (1 + i) = ((Txt.split p "/").take (1 + i)).map V.str := (List.map_take ..).symm
      rw [e3] at h3
      refine ⟨_, lp, (Txt.split p "/").take (1 + i), rfl, rfl, .inl (SqL.of (g3.sub.l h3)), ?_, ?_⟩
      · have q1 := sum_take_le ((Txt.split p "/").map (·.length)) (1 + i)
        rw [← List.map_take] at q1
        have q2 : ((Txt.split p "/").take (1 + i)).length ≤ (Txt.split p "/").length := by
          rw [List.length_take]
          omega
        rw [show ("/" : Str).length = 1 from rfl]
        omega
      · walk_at "st"
        have hd3 : Rd H3 t (.dK kvs) := rd_keep (rd_keep (rd_keep hd g1 fun z => z) g2 fun z => z) g3 fun z => z
        refine z_has hd3 ?_
        walk_at "st"
        rcases hE.get (Txt.join "/" ((Txt.split p "/").take (1 + i))) with ⟨_, q⟩ | ⟨c, v, _, q, _⟩
        · rw [q]
          refine z_T ?_
          walk_at "st"
          exact k _ F3 H3 (by walk_at "mv")
        · rw [q]
          refine z_F ?_
          walk_at "st"
          refine z_at hd3 q ?_
          walk_at "st"
          refine z_ndec (fun e => ?_) (fun e => ?_)
          · walk_at "st"
            exact k _ F3 H3 (by walk_at "mv")
          · walk_at "st"
            exact ⟨F3, _, _, rfl, by walk_at "mv"⟩
    · rintro σ H2 ⟨F2, a, b, rfl, g2⟩
      walk_at "st"
      exact k _ F2 H2 (by walk_at "mv")
end Cm
namespace Cm
open PySem PySem.Spec PySem.Calls L2 U Hd
variable {w : World} {K : PySem.W.Frag} {mg : Str → Option Value} {base : Heap}
theorem sc__law_fill : FnScope ["_law_table_here", "_law_call", "_law_path_here", "_law_error", "_law_words_here", "_law_at"] ["_law_table_here", "_law_call"] (defScope s__law_fill) := ⟨rfl, rfl, rfl, by decide +kernel, rfl, by decide +kernel, by decide +kernel⟩
theorem bd__law_fill (kV doc pm : Value) (an : Option Addr) (cdv ct : Value) : ∀ us : List Value, us.length = (["_law_table_here", "_law_call"] : List Str).length → bindArgs (PySem.W.fnOf "_law_fill" "_law_fill" (defArgs s__law_fill) (defBody s__law_fill) (defScope s__law_fill) .none kV doc pm an cdv ct) ⟨us, []⟩ = pure ((["_law_table_here", "_law_call"] : List Str).zip us) :=
  fun us hl => match us, hl with | [_, _], _ => rfl
theorem sc__law_remove : FnScope ["_law_table_here", "_law_path_here", "_law_way_here", "_law_other"] ["_law_table_here", "_law_path_here"] (defScope s__law_remove) := ⟨rfl, rfl, rfl, by decide +kernel, rfl, by decide +kernel, by decide +kernel⟩
theorem bd__law_remove (kV doc pm : Value) (an : Option Addr) (cdv ct : Value) : ∀ us : List Value, us.length = (["_law_table_here", "_law_path_here"] : List Str).length → bindArgs (PySem.W.fnOf "_law_remove" "_law_remove" (defArgs s__law_remove) (defBody s__law_remove) (defScope s__law_remove) .none kV doc pm an cdv ct) ⟨us, []⟩ = pure ((["_law_table_here", "_law_path_here"] : List Str).zip us) :=
  fun us hl => match us, hl with | [_, _], _ => rfl
theorem sc__law_move : FnScope ["_law_table_here", "_law_name", "_law_old", "_law_new", "_law_way_here", "_law_moving", "_law_path_here"] ["_law_table_here", "_law_name", "_law_old", "_law_new"] (defScope s__law_move) := ⟨rfl, rfl, rfl, by decide +kernel, rfl, by decide +kernel, by decide +kernel⟩
theorem bd__law_move (kV doc pm : Value) (an : Option Addr) (cdv ct : Value) : ∀ us : List Value, us.length = (["_law_table_here", "_law_name", "_law_old", "_law_new"] : List Str).length → bindArgs (PySem.W.fnOf "_law_move" "_law_move" (defArgs s__law_move) (defBody s__law_move) (defScope s__law_move) .none kV doc pm an cdv ct) ⟨us, []⟩ = pure ((["_law_table_here", "_law_name", "_law_old", "_law_new"] : List Str).zip us) :=
  fun us hl => match us, hl with | [_, _, _, _], _ => rfl
theorem sc__law_changed : FnScope ["_law_table_here", "_law_call"] ["_law_table_here", "_law_call"] (defScope s__law_changed) := ⟨rfl, rfl, rfl, by decide +kernel, rfl, by decide +kernel, by decide +kernel⟩
theorem bd__law_changed (kV doc pm : Value) (an : Option Addr) (cdv ct : Value) : ∀ us : List Value, us.length = (["_law_table_here", "_law_call"] : List Str).length → bindArgs (PySem.W.fnOf "_law_changed" "_law_changed" (defArgs s__law_changed) (defBody s__law_changed) (defScope s__law_changed) .none kV doc pm an cdv ct) ⟨us, []⟩ = pure ((["_law_table_here", "_law_call"] : List Str).zip us) :=
  fun us hl => match us, hl with | [_, _], _ => rfl
/-- the objects that a call on the table at t changes -/
abbrev Mt (t : Addr) : Addr → Prop := fun a => a = t
theorem TabV.set {F H F' H' : Hp} {a : Addr} {t t' : Tab} {kvs' : List (Key × V)} (f : F' a = none) (h : H' a = some (.dK kvs')) (e : TabE F' kvs' t') (o : TabOk t') : TabV F' H' a t' := ⟨f, kvs', h, e, o⟩
def spMake : Sp := fun vs H Q _ => ∃ (F : Hp) (t : Addr) (nm p : Str) (tb : Tab), vs = [.ref t, .str nm, .str p] ∧ Sub F H ∧ TabV F H t tb ∧ p.length ≤ 60 ∧ tb.length ≤ 1000 ∧
  ∀ (r : Str) (F' H' : Hp) (tb' : Tab), Mv (Mt t) F H F' H' → TabV F' H' t tb' → tb'.length ≤ tb.length + 1 → Q (.str r) H'
theorem ok_make (T : Tx w K mg) : FnG Pr w K mg base CX0 2 "_law_make" ["_law_table_here", "_law_name", "_law_path_here"] spMake := by
  have G__law_way : FnG Pr w K mg base CX0 1 "_law_way" ["_law_table_here", "_law_path_here"] spWay := ok_way T
  refine okG (df__law_make T) sc__law_make bd__law_make (fun vs H Q E h => ?_) (fun f cdv A outer s H vs Q E hr h => ?_)
  · obtain ⟨_, _, _, _, _, rfl, _⟩ := h
    rfl
  · obtain ⟨F, t, nm, p, tb, rfl, S, ⟨ft, kvs, ht, hE, hO⟩, hp, hn, k⟩ := h
    refine ⟨_, (pss_cons (ps_if (pt_cmpR (uEq hr.units : OpR _ _ (rEqU K)) (pv 2) pe_str (nomark _)) (pss_one (ps_ret pe_str)) pss_nil) (pss_cons (ps_set (i := 3) sc__law_make.nd rfl (by first | exact Or.inl rfl | exact Or.inr rfl) (pe_callG G__law_way (hr.mono (by first | decide | omega)) (by rfl) pass0 (pa_cons (pv 0) (pa_cons (pv 2) pa_nil)))) (pss_cons (ps_if (pt_cmpR (uNe hr.units : OpR _ _ (rNeU K)) (pv 3) pe_str (nomark _)) (pss_one (ps_ret (pv 3))) pss_nil) (pss_cons (ps_if (pt_cmp (pc_din (hu_of hr) (pv 2) (pv 0))) (pss_one (ps_ret pe_str)) pss_nil) (pss_cons (ps_dput (hu_of hr) (pv 0) (pv 2) pe_non rfl) (pss_cons (ps_if (pt_cmpR (uEq hr.units : OpR _ _ (rEqU K)) (pv 1) pe_str (nomark _)) (pss_one (ps_dput (hu_of hr) (pv 0) (pv 2) (pe_lst pa_nil) rfl)) pss_nil) (pss_one (ps_ret pe_str)))))))), ?_⟩
    walk_at "go"
    walk_at "st"
    refine z_dec (fun e1 => ?_) (fun e1 => ?_)
    · walk_at "st"
      exact k _ F H tb (by walk_at "mv") ⟨ft, kvs, ht, hE, hO⟩ (by omega)
    walk_at "st"
    refine ⟨F, t, p, kvs, tb, rfl, S, .inl ht, hE, hp, fun r F1 H1 g1 => ?_⟩
    have V1 : TabV F1 H1 t tb := TabV.mv ⟨ft, kvs, ht, hE, hO⟩ g1 fun z => z
    have ht1 : H1 t = some (.dK kvs) := g1.kp t _ (fun z => z) ht
    have hE1 : TabE F1 kvs tb := hE.mv g1
    have f1 : F1 t = none := V1.1
    have hk : kvs.length < 100000 := by
      rw [hE.length]
      omega
    walk_at "st"
    refine z_ndec (fun e2 => ?_) (fun e2 => ?_)
    · walk_at "st"
      exact k _ F1 H1 tb (by walk_at "mv") V1 (by omega)
    walk_at "st"
    rcases hE.get p with ⟨_, q⟩ | ⟨c, v, _, q, _⟩
    rotate_left
    · rw [q]
      refine z_T ?_
      walk_at "st"
      exact k _ F1 H1 tb (by walk_at "mv") V1 (by omega)
    rw [q]
    refine z_F ?_
    walk_at "st"
    rename_i F2 H2 g2 f2 h2
    have hE2 : TabE F2 (putK kvs (.inr p) .non) (aput tb p none) := (hE1.mv g2).put (c := none) rfl p
    have hO2 : TabOk (aput tb p none) := hO.put hp fun ns z => by cases z
    have hl2 : (aput tb p (none : Cnt)).length ≤ tb.length + 1 := aput_length
    refine z_dec (fun e3 => ?_) (fun e3 => ?_)
    · walk_at "sv"
      refine z_newL g2.sub (by walk_at "len") fun l F3 H3 g3 h3 => ?_
      walk_at "st"
      refine z_put (a := t) (by walk_at "ha") (by rw [hE2.length]; rw [sizeLine_eq]; omega) (by walk_at "sub") (by walk_at "fn") fun F4 H4 g4 f4 h4 => ?_
      walk_at "st"
      have hE4 : TabE F4 _ (aput (aput tb p none) p (some [])) := ((hE2.mv g3).mv g4).put (v := .ref l) (c := some []) ⟨l, rfl, by walk_at "fa"⟩ p
      have hl4 : (aput (aput tb p (none : Cnt)) p (some [])).length ≤ tb.length + 1 := by
        have e : (aput (aput tb p (none : Cnt)) p (some [])).map (·.1) = (aput tb p (none : Cnt)).map (·.1) := by
          rw [aput_keys, if_pos]
          rw [aput_keys]
          split
          · assumption
          · exact List.mem_append_right _ (List.mem_singleton.mpr rfl)
        have e2 := congrArg List.length e
        rw [List.length_map, List.length_map] at e2
        omega
      exact k _ F4 H4 _ (by walk_at "mv") ⟨f4, _, h4, hE4, hO2.put hp fun ns z => by cases z; exact Nat.zero_le _⟩ hl4
    · walk_at "st"
      exact k _ F2 H2 _ (by walk_at "mv") ⟨f2, _, h2, hE2, hO2⟩ hl2
def spFErr : Sp := fun vs H Q _ => ∃ (F : Hp) (t : Addr) (p : Str) (kvs : List (Key × V)) (tb : Tab), vs = [.ref t, .str p] ∧ Sub F H ∧ Rd H t (.dK kvs) ∧ TabE F kvs tb ∧ p.length ≤ 60 ∧
  ∀ (r : Str) (F' H' : Hp), Mv N0 F H F' H' → (r = "" → ∃ ns, aget tb p = some (some ns)) → Q (.str r) H'
theorem ok_ferr (T : Tx w K mg) : FnG Pr w K mg base CX0 2 "_law_file_error" ["_law_table_here", "_law_path_here"] spFErr := by
  have G__law_way : FnG Pr w K mg base CX0 1 "_law_way" ["_law_table_here", "_law_path_here"] spWay := ok_way T
  refine okG (df__law_file_error T) sc__law_file_error bd__law_file_error (fun vs H Q E h => ?_) (fun f cdv A outer s H vs Q E hr h => ?_)
  · obtain ⟨_, _, _, _, _, rfl, _⟩ := h
    rfl
  · obtain ⟨F, t, p, kvs, tb, rfl, S, hd, hE, hp, k⟩ := h
    refine ⟨_, (pss_cons (ps_if (pt_cmpR (uEq hr.units : OpR _ _ (rEqU K)) (pv 1) pe_str (nomark _)) (pss_one (ps_ret pe_str)) pss_nil) (pss_cons (ps_set (i := 2) sc__law_file_error.nd rfl (by first | exact Or.inl rfl | exact Or.inr rfl) (pe_callG G__law_way (hr.mono (by first | decide | omega)) (by rfl) pass0 (pa_cons (pv 0) (pa_cons (pv 1) pa_nil)))) (pss_cons (ps_if (pt_cmpR (uNe hr.units : OpR _ _ (rNeU K)) (pv 2) pe_str (nomark _)) (pss_one (ps_ret (pv 2))) pss_nil) (pss_cons (ps_if (pt_cmp (pc_dnotin (hu_of hr) (pv 1) (pv 0))) (pss_one (ps_ret pe_str)) pss_nil) (pss_cons (ps_if (pt_cmp (pc_isN (pe_dget (hu_of hr) (pv 0) (pv 1) (fun _ _ => rfl)))) (pss_one (ps_ret pe_str)) pss_nil) (pss_one (ps_ret pe_str))))))), ?_⟩
    walk_at "go"
    walk_at "st"
    refine z_dec (fun e1 => ?_) (fun e1 => ?_)
    · walk_at "st"
      exact k _ F H (by walk_at "mv") fun z => absurd z (by decide)
    walk_at "st"
    refine ⟨F, t, p, kvs, tb, rfl, S, hd, hE, hp, fun r F1 H1 g1 => ?_⟩
    have hd1 : Rd H1 t (.dK kvs) := rd_keep hd g1 fun z => z
    walk_at "st"
    refine z_ndec (fun e2 => ?_) (fun e2 => ?_)
    · walk_at "st"
      exact k _ F1 H1 (by walk_at "mv") fun z => absurd z e2
    walk_at "st"
    rcases hE.get p with ⟨_, q⟩ | ⟨c, v, hc, q, hv⟩
    · rw [q]
      refine z_T ?_
      walk_at "st"
      exact k _ F1 H1 (by walk_at "mv") fun z => absurd z (by decide)
    rw [q]
    refine z_F ?_
    walk_at "st"
    refine z_at hd1 q ?_
    walk_at "st"
    cases c with
    | none =>
      cases hv
      refine z_dec (fun e => ?_) (fun e => absurd rfl e)
      walk_at "st"
      exact k _ F1 H1 (by walk_at "mv") fun z => absurd z (by decide)
    | some ns =>
      obtain ⟨a, rfl, ha⟩ := hv
      refine z_dec (fun e => by cases e) (fun e => ?_)
      walk_at "st"
      exact k _ F1 H1 (by walk_at "mv") fun _ => ⟨ns, hc⟩
end Cm
namespace Cm
open PySem PySem.Spec PySem.Calls L2 U Hd
variable {w : World} {K : PySem.W.Frag} {mg : Str → Option Value} {base : Heap}
/-- what a fill is asked for -/
inductive FCall (F : Hp) : List V → Str → Prop
  | wr {s : Str} {i : Int} {a : Addr} {ns : List Int} (h0 : 0 ≤ i) (h1 : i + ns.length ≤ 4096) (ha : F a = some (.lst (ns.map V.int))) : FCall F [.str "write", .str s, .int i, .ref a] s
  | tr {s : Str} {i : Int} (h0 : 0 ≤ i) (h1 : i ≤ 4096) : FCall F [.str "truncate", .str s, .int i] s
def spFill : Sp := fun vs H Q _ => ∃ (F : Hp) (t c : Addr) (p : Str) (cs : List V) (tb : Tab), vs = [.ref t, .ref c] ∧ Sub F H ∧ TabV F H t tb ∧ F c = some (.tup cs) ∧ FCall F cs p ∧ p.length ≤ 60 ∧ tb.length ≤ 1000 ∧
  ∀ (r : Str) (F' H' : Hp) (tb' : Tab), Mv (Mt t) F H F' H' → TabV F' H' t tb' → tb'.length ≤ tb.length + 1 → Q (.str r) H'
theorem ok_fill (T : Tx w K mg) : FnG Pr w K mg base CX0 3 "_law_fill" ["_law_table_here", "_law_call"] spFill := by
  have G__law_file_error : FnG Pr w K mg base CX0 2 "_law_file_error" ["_law_table_here", "_law_path_here"] spFErr := ok_ferr T
  refine okG (df__law_fill T) sc__law_fill bd__law_fill (fun vs H Q E h => ?_) (fun f cdv A outer s H vs Q E hr h => ?_)
  · obtain ⟨_, _, _, _, _, _, rfl, _⟩ := h
    rfl
  · obtain ⟨F, t, c, p, cs, tb, rfl, S, ⟨ft, kvs, ht, hE, hO⟩, hc, hC, hp, hn, k⟩ := h
    refine ⟨_, (pss_cons (ps_set (i := 2) sc__law_fill.nd rfl (by first | exact Or.inl rfl | exact Or.inr rfl) (pe_ix (ix_seq : IxR _ (rIx K)) (pv 1) pe_int (fun _ _ => rfl))) (pss_cons (ps_set (i := 3) sc__law_fill.nd rfl (by first | exact Or.inl rfl | exact Or.inr rfl) (pe_callG G__law_file_error (hr.mono (by first | decide | omega)) (by rfl) pass0 (pa_cons (pv 0) (pa_cons (pv 2) pa_nil)))) (pss_cons (ps_if (pt_cmpR (uNe hr.units : OpR _ _ (rNeU K)) (pv 3) pe_str (nomark _)) (pss_one (ps_ret (pv 3))) pss_nil) (pss_cons (ps_set (i := 4) sc__law_fill.nd rfl (by first | exact Or.inl rfl | exact Or.inr rfl) (ub_list (f_list T) (pa_cons (pe_dget (hu_of hr) (pv 0) (pv 2) (fun _ _ => rfl)) pa_nil) : PE _ _ (tCB (rListU K) _))) (pss_cons (ps_if (pt_cmpR (uEq hr.units : OpR _ _ (rEqU K)) (pe_ix (ix_seq : IxR _ (rIx K)) (pv 1) pe_int (fun _ _ => rfl)) pe_str (nomark _)) (pss_one (ps_set (i := 4) sc__law_fill.nd rfl (by first | exact Or.inl rfl | exact Or.inr rfl) (pe_slice (uSl : SlR _ (rSlU K)) (pe_op (uAdd : OpR _ _ (rAddU K)) (pv 4) (pe_op uMul (pe_lst (pa_cons pe_int pa_nil)) (pe_op op_sub (pe_ix (ix_seq : IxR _ (rIx K)) (pv 1) pe_int (fun _ _ => rfl)) (ub_len (f_len T) (pa_cons (pv 4) pa_nil) : PE _ _ (tCB (rLenU K) _))))) po_none (po_some (pe_ix (ix_seq : IxR _ (rIx K)) (pv 1) pe_int (fun _ _ => rfl)))))) (pss_one (ps_if (pt_cmpR op_gt (ub_len (f_len T) (pa_cons (pe_ix (ix_seq : IxR _ (rIx K)) (pv 1) pe_int (fun _ _ => rfl)) pa_nil) : PE _ _ (tCB (rLenU K) _)) pe_int (nomark _)) (pss_cons (ps_set (i := 5) sc__law_fill.nd rfl (by first | exact Or.inl rfl | exact Or.inr rfl) (pe_ix (ix_seq : IxR _ (rIx K)) (pv 1) pe_int (fun _ _ => rfl))) (pss_cons (ps_set (i := 4) sc__law_fill.nd rfl (by first | exact Or.inl rfl | exact Or.inr rfl) (pe_op (uAdd : OpR _ _ (rAddU K)) (pv 4) (pe_op uMul (pe_lst (pa_cons pe_int pa_nil)) (pe_op op_sub (pv 5) (ub_len (f_len T) (pa_cons (pv 4) pa_nil) : PE _ _ (tCB (rLenU K) _)))))) (pss_one (ps_set (i := 4) sc__law_fill.nd rfl (by first | exact Or.inl rfl | exact Or.inr rfl) (pe_op (uAdd : OpR _ _ (rAddU K)) (pe_op (uAdd : OpR _ _ (rAddU K)) (pe_slice (uSl : SlR _ (rSlU K)) (pv 4) po_none (po_some (pv 5))) (pe_ix (ix_seq : IxR _ (rIx K)) (pv 1) pe_int (fun _ _ => rfl))) (pe_slice (uSl : SlR _ (rSlU K)) (pv 4) (po_some (pe_op (uAdd : OpR _ _ (rAddU K)) (pv 5) (ub_len (f_len T) (pa_cons (pe_ix (ix_seq : IxR _ (rIx K)) (pv 1) pe_int (fun _ _ => rfl)) pa_nil) : PE _ _ (tCB (rLenU K) _)))) po_none)))))) pss_nil))) (pss_cons (ps_dput (hu_of hr) (pv 0) (pv 2) (pv 4) rfl) (pss_one (ps_ret pe_str)))))))), ?_⟩
    walk_at "go"
    walk_at "st"
    refine z_ixT (by walk_at "ha") (v := .str p) (by cases hC <;> rfl) ?_
    walk_at "st"
    refine ⟨F, t, p, kvs, tb, rfl, S, .inl ht, hE, hp, fun r F1 H1 g1 hr1 => ?_⟩
    have V1 : TabV F1 H1 t tb := TabV.mv ⟨ft, kvs, ht, hE, hO⟩ g1 fun z => z
    have ht1 : H1 t = some (.dK kvs) := g1.kp t _ (fun z => z) ht
    have hE1 : TabE F1 kvs tb := hE.mv g1
    have f1 : F1 t = none := V1.1
    have hk : kvs.length < 100000 := by
      rw [hE.length]
      omega
    walk_at "st"
    refine z_ndec (fun e2 => ?_) (fun e2 => ?_)
    · walk_at "st"
      exact k _ F1 H1 tb (by walk_at "mv") V1 (by omega)
    obtain ⟨ns, hns⟩ := hr1 e2
    have hlen := hO.get hns
    rcases hE1.get p with ⟨q, _⟩ | ⟨c', v, q', q, hv⟩
    · rw [q] at hns
      cases hns
    rw [hns] at q'
    obtain rfl : some ns = c' := Option.some.inj q'
    obtain ⟨a, rfl, ha⟩ := hv
    walk_at "st"
    refine z_at (.inl ht1) q ?_
    walk_at "st"
    refine z_listL (SqL.of (by walk_at "ha")) (by walk_at "sub") fun l F2 H2 g2 hl => ?_
    walk_at "sj"
    refine z_seqJ (fun σ' H3 => ∃ (F3 : Hp) (l2 : Addr) (ms : List Int) (o : Option V), σ' = [some (.ref t), some (.ref c), some (.str p), some (.str r), some (.ref l2), o] ∧ Mv N0 F2 H2 F3 H3 ∧ F3 l2 = some (.lst (ms.map V.int)) ∧ ms.length ≤ 5000) ?_ (fun N hN => ?_)
    · rintro σ' H3 ⟨F3, l2, ms, o, rfl, g3, h3, hm⟩
      walk_at "st"
      rename_i F4 H4 g4 f4 h4
      have hE4 : TabE F4 _ (aput tb p (some ms)) := (((hE1.mv g2).mv g3).mv g4).put (v := .ref l2) (c := some ms) ⟨l2, rfl, by walk_at "fa"⟩ p
      exact k _ F4 H4 _ (by walk_at "mv") ⟨f4, _, h4, hE4, hO.put hp fun ns z => by cases z; exact hm⟩ aput_length
    walk_at "st"
    cases hC with
    | @tr s i h0 h1 =>
      refine z_ixT (by walk_at "ha") rfl ?_
      walk_at "st"
      refine z_dec (fun _ => ?_) (fun e => absurd rfl e)
      walk_at "st"
      rename_i z F3 H3 g3 hz
      refine z_rep (by walk_at "ha") (by simp only [List.length_map]; omega) (by simp only [List.length_map]; omega) (by simp only [List.length_map, List.length_cons, List.length_nil]; rw [sizeLine_eq]; omega) (by walk_at "sub") fun y F4 H4 g4 hy => ?_
      rw [rep_ints] at hy
      refine z_addL (by walk_at "ha") (by walk_at "ha") (by simp only [List.length_map, List.length_replicate]; rw [sizeLine_eq]; omega) (by walk_at "sub") fun x F5 H5 g5 hx => ?_
      rw [← List.map_append] at hx
      walk_at "st"
      rename_i u F6 H6 g6 hu
      rw [cutV_toI _ h0, ← List.map_take] at hu
      exact hN _ _ ⟨F6, u, _, none, rfl, by walk_at "mv", hu, by rw [List.length_take]; omega⟩
    | @wr s i b ms h0 h1 hb =>
      refine z_ixT (by walk_at "ha") rfl ?_
      walk_at "st"
      refine z_dec (fun e => absurd e (by decide)) (fun _ => ?_)
      walk_at "st"
      refine z_dec (fun e => ?_) (fun e => ?_)
      · walk_at "st"
        rename_i z F3 H3 g3 hz
        refine z_rep (by walk_at "ha") (by simp only [List.length_map]; omega) (by simp only [List.length_map]; omega) (by simp only [List.length_map, List.length_cons, List.length_nil]; rw [sizeLine_eq]; omega) (by walk_at "sub") fun y F4 H4 g4 hy => ?_
        rw [rep_ints] at hy
        refine z_addL (by walk_at "ha") (by walk_at "ha") (by simp only [List.length_map, List.length_replicate]; rw [sizeLine_eq]; omega) (by walk_at "sub") fun x F5 H5 g5 hx => ?_
        rw [← List.map_append] at hx
        walk_at "st"
        rename_i u F6 H6 g6 hu
        rw [cutV_toI _ h0, ← List.map_take] at hu
        refine z_addL (by walk_at "ha") (by walk_at "ha") (by simp only [List.length_map, List.length_take, List.length_append, List.length_replicate]; rw [sizeLine_eq]; omega) (by walk_at "sub") fun x2 F7 H7 g7 hx2 => ?_
        rw [← List.map_append] at hx2
        walk_at "st"
        rename_i u2 F8 H8 g8 hu2
        rw [cutV_fromI _ (by rw [List.length_map]; omega), ← List.map_drop] at hu2
        refine z_addL (by walk_at "ha") (by walk_at "ha") (by simp only [List.length_map, List.length_take, List.length_append, List.length_replicate, List.length_drop]; rw [sizeLine_eq]; omega) (by walk_at "sub") fun x3 F9 H9 g9 hx3 => ?_
        rw [← List.map_append] at hx3
        walk_at "st"
        exact hN _ _ ⟨F9, x3, _, _, rfl, by walk_at "mv", hx3, by simp only [List.length_map, List.length_take, List.length_append, List.length_replicate, List.length_drop]; omega⟩
      · walk_at "st"
        exact hN _ _ ⟨F2, l, ns, _, rfl, by walk_at "mv", hl, hlen⟩
end Cm
namespace Cm
open PySem PySem.Spec PySem.Calls L2 U Hd
variable {w : World} {K : PySem.W.Frag} {mg : Str → Option Value} {base : Heap}
def spRemove : Sp := fun vs H Q _ => ∃ (F : Hp) (t : Addr) (p : Str) (tb : Tab), vs = [.ref t, .str p] ∧ Sub F H ∧ TabV F H t tb ∧ p.length ≤ 60 ∧ tb.length ≤ 1000 ∧
  ∀ (r : Str) (F' H' : Hp) (tb' : Tab), Mv (Mt t) F H F' H' → TabV F' H' t tb' → tb'.length ≤ tb.length → Q (.str r) H'
theorem ok_remove (T : Tx w K mg) : FnG Pr w K mg base CX0 2 "_law_remove" ["_law_table_here", "_law_path_here"] spRemove := by
  have G__law_way : FnG Pr w K mg base CX0 1 "_law_way" ["_law_table_here", "_law_path_here"] spWay := ok_way T
  refine okG (df__law_remove T) sc__law_remove bd__law_remove (fun vs H Q E h => ?_) (fun f cdv A outer s H vs Q E hr h => ?_)
  · obtain ⟨_, _, _, _, rfl, _⟩ := h
    rfl
  · obtain ⟨F, t, p, tb, rfl, S, ⟨ft, kvs, ht, hE, hO⟩, hp, hn, k⟩ := h
    refine ⟨_, (pss_cons (ps_if (pt_cmpR (uEq hr.units : OpR _ _ (rEqU K)) (pv 1) pe_str (nomark _)) (pss_one (ps_ret pe_str)) pss_nil) (pss_cons (ps_set (i := 2) sc__law_remove.nd rfl (by first | exact Or.inl rfl | exact Or.inr rfl) (pe_callG G__law_way (hr.mono (by first | decide | omega)) (by rfl) pass0 (pa_cons (pv 0) (pa_cons (pv 1) pa_nil)))) (pss_cons (ps_if (pt_cmpR (uNe hr.units : OpR _ _ (rNeU K)) (pv 2) pe_str (nomark _)) (pss_one (ps_ret (pv 2))) pss_nil) (pss_cons (ps_if (pt_cmp (pc_dnotin (hu_of hr) (pv 1) (pv 0))) (pss_one (ps_ret pe_str)) pss_nil) (pss_cons (ps_if (pt_val (ub_any (f_any T) (pa_cons (pe_lock (pe_lc (own := [("_law_other", 3)]) rfl sc__law_remove.nd (pi_keys (pv 0)) (blkOk_by (N := ["_law_table_here", "_law_path_here", "_law_way_here", "_law_other"]) (sc := defScope s__law_remove) (by decide +kernel)) (fun _ _ _ _ _ => (pg_name (i := 3) sc__law_remove.nd rfl (by first | exact Or.inl rfl | exact Or.inr rfl))) (fun _ _ _ _ _ => pts_nil) (fun _ _ _ _ _ => (pe_m1 PySem.F.slot_str_startswith PySem.F.type_str_startswith mt_startswith (pv 3) (pe_op (uAdd : OpR _ _ (rAddU K)) (pv 1) pe_str))))) pa_nil) : PE _ _ (tCB (rAny K) _))) (pss_one (ps_ret pe_str)) pss_nil) (pss_cons (ps_expr (pe_dpop1 (pv 0) (pv 1) ⟨rfl, rfl, rfl, rfl⟩)) (pss_one (ps_ret pe_str)))))))), ?_⟩
    walk_at "go"
    walk_at "st"
    refine z_dec (fun e1 => ?_) (fun e1 => ?_)
    · walk_at "st"
      exact k _ F H tb (by walk_at "mv") ⟨ft, kvs, ht, hE, hO⟩ (by omega)
    walk_at "st"
    refine ⟨F, t, p, kvs, tb, rfl, S, .inl ht, hE, hp, fun r F1 H1 g1 => ?_⟩
    have V1 : TabV F1 H1 t tb := TabV.mv ⟨ft, kvs, ht, hE, hO⟩ g1 fun z => z
    have ht1 : H1 t = some (.dK kvs) := g1.kp t _ (fun z => z) ht
    have hE1 : TabE F1 kvs tb := hE.mv g1
    have f1 : F1 t = none := V1.1
    have hk : kvs.length ≤ 1000 := by
      rw [hE.length]
      omega
    walk_at "st"
    refine z_ndec (fun e2 => ?_) (fun e2 => ?_)
    · walk_at "st"
      exact k _ F1 H1 tb (by walk_at "mv") V1 (by omega)
    walk_at "st"
    rcases hE.get p with ⟨_, q⟩ | ⟨c, v, hc, q, hv⟩
    · rw [q]
      refine z_T ?_
      walk_at "st"
      exact k _ F1 H1 tb (by walk_at "mv") V1 (by omega)
    rw [q]
    refine z_F ?_
    walk_at "st"
    refine lc_keys (d := t) (kvs := kvs) g1.sub rfl (by walk_at "ha") (.inl f1) (by omega) (fun i acc => ∃ bs : List Bool, acc = bs.map V.bl ∧ bs.length = i) ⟨[], rfl, rfl⟩ (fun i acc ⟨bs, e, hl⟩ => by rw [e, List.length_map]; omega) ?_ ?_
    · rintro i ky v' F2 H2 acc Kk Kn hi g2 s2 _ ext2 rd2 ⟨bs, rfl, hl⟩ hK hN
      obtain ⟨x, hx, r1, r2⟩ := hE.ix hi
      dsimp only at r1
      subst r1
      dsimp only [kV]
      walk_at "st"
      refine ⟨rfl, ?_⟩
      walk_at "st"
      refine z_addS (by rw [show ("/" : Str).length = 1 from rfl, sizeLine_eq]; omega) ?_
      refine ⟨_, _, rfl, rfl, ?_⟩
      refine hK _ F2 H2 (Mv.self s2) ⟨bs ++ [_], by rw [List.map_append]; rfl, by simp [hl]⟩
    · rintro D F2 H2 acc g2 hD hl2 ⟨bs, rfl, hl⟩
      refine ⟨D, bs, rfl, SqL.of (g2.sub.l hl2), ?_⟩
      walk_at "st"
      refine z_ite (fun e3 => ?_) (fun e3 => ?_)
      · walk_at "st"
        exact k _ F2 H2 tb (by walk_at "mv") (V1.mv g2 fun z => z) (by omega)
      · walk_at "st"
        have ht2 : H2 t = some (.dK kvs) := g2.kp t _ (fun z => z) ht1
        refine z_pop ht2 q g2.sub (V1.mv g2 fun z => z).1 fun F3 H3 g3 f3 h3 => ?_
        walk_at "st"
        exact k _ F3 H3 _ (by walk_at "mv") ⟨f3, _, h3, ((hE1.mv g2).mv g3).del p, hO.del⟩ adel_length
def spMove : Sp := fun vs H Q _ => ∃ (F : Hp) (t : Addr) (nm old new : Str) (tb : Tab), vs = [.ref t, .str nm, .str old, .str new] ∧ Sub F H ∧ TabV F H t tb ∧ old.length ≤ 60 ∧ new.length ≤ 60 ∧ tb.length ≤ 500 ∧
  ∀ (r : Str) (F' H' : Hp) (tb' : Tab), Mv (Mt t) F H F' H' → TabV F' H' t tb' → tb'.length ≤ 2 * tb.length → Q (.str r) H'
theorem ok_move (T : Tx w K mg) : FnG Pr w K mg base CX0 2 "_law_move" ["_law_table_here", "_law_name", "_law_old", "_law_new"] spMove := by
  have G__law_way : FnG Pr w K mg base CX0 1 "_law_way" ["_law_table_here", "_law_path_here"] spWay := ok_way T
  refine okG (df__law_move T) sc__law_move bd__law_move (fun vs H Q E h => ?_) (fun f cdv A outer s H vs Q E hr h => ?_)
  · obtain ⟨_, _, _, _, _, _, rfl, _⟩ := h
    rfl
  · obtain ⟨F, t, nm, old, new, tb, rfl, S, V0, hp, hp2, hn, k⟩ := h
    have V0' := V0
    obtain ⟨ft, kvs, ht, hE, hO⟩ := V0'
    refine ⟨_, (pss_cons (ps_if (PW.pt (pw_or (pt_cmpR (uEq hr.units : OpR _ _ (rEqU K)) (pv 2) pe_str (nomark _)) (pw_or1 (pt_cmpR (uEq hr.units : OpR _ _ (rEqU K)) (pv 3) pe_str (nomark _))))) (pss_one (ps_ret pe_str)) pss_nil) (pss_cons (ps_set (i := 4) sc__law_move.nd rfl (by first | exact Or.inl rfl | exact Or.inr rfl) (pe_callG G__law_way (hr.mono (by first | decide | omega)) (by rfl) pass0 (pa_cons (pv 0) (pa_cons (pv 2) pa_nil)))) (pss_cons (ps_if (pt_cmpR (uNe hr.units : OpR _ _ (rNeU K)) (pv 4) pe_str (nomark _)) (pss_one (ps_ret (pv 4))) pss_nil) (pss_cons (ps_if (pt_cmp (pc_dnotin (hu_of hr) (pv 2) (pv 0))) (pss_one (ps_ret pe_str)) pss_nil) (pss_cons (ps_if (PW.pt (pw_and (pt_cmpR (uEq hr.units : OpR _ _ (rEqU K)) (pv 2) (pv 3) (nomark _)) (pw_and1 (pt_cmpR (uEq hr.units : OpR _ _ (rEqU K)) (pv 1) pe_str (nomark _))))) (pss_one (ps_ret pe_str)) pss_nil) (pss_cons (ps_if (pt_val (pe_m1 PySem.F.slot_str_startswith PySem.F.type_str_startswith mt_startswith (pv 3) (pe_op (uAdd : OpR _ _ (rAddU K)) (pv 2) pe_str))) (pss_one (ps_ret pe_str)) pss_nil) (pss_cons (ps_set (i := 4) sc__law_move.nd rfl (by first | exact Or.inl rfl | exact Or.inr rfl) (pe_callG G__law_way (hr.mono (by first | decide | omega)) (by rfl) pass0 (pa_cons (pv 0) (pa_cons (pv 3) pa_nil)))) (pss_cons (ps_if (pt_cmpR (uNe hr.units : OpR _ _ (rNeU K)) (pv 4) pe_str (nomark _)) (pss_one (ps_ret (pv 4))) pss_nil) (pss_cons (ps_if (pt_cmp (pc_din (hu_of hr) (pv 3) (pv 0))) (pss_one (ps_ret pe_str)) pss_nil) (pss_cons (ps_lock (ps_setLc (i := 5) (own := [("_law_path_here", 6)]) rfl sc__law_move.nd rfl rfl (sw_true rfl rfl rfl (by decide +kernel)) (pi_keys (pv 0)) (blkOk_by (N := ["_law_table_here", "_law_name", "_law_old", "_law_new", "_law_way_here", "_law_moving", "_law_path_here"]) (sc := defScope s__law_move) (by decide +kernel)) (fun _ _ _ _ _ => (pg_name (i := 6) sc__law_move.nd rfl (by first | exact Or.inl rfl | exact Or.inr rfl))) (fun _ _ _ _ _ => (pts_one (PW.pt (pw_or (pt_cmpR (uEq hr.units : OpR _ _ (rEqU K)) (pv 6) (pv 2) (nomark _)) (pw_or1 (pt_val (pe_m1 PySem.F.slot_str_startswith PySem.F.type_str_startswith mt_startswith (pv 6) (pe_op (uAdd : OpR _ _ (rAddU K)) (pv 2) pe_str)))))))) (fun _ _ _ _ _ => (pv 6)))) (pss_cons (ps_if (pt_val (ub_any (f_any T) (pa_cons (pe_lc (own := [("_law_path_here", 6)]) rfl sc__law_move.nd (pi_list (pv 5)) (blkOk_by (N := ["_law_table_here", "_law_name", "_law_old", "_law_new", "_law_way_here", "_law_moving", "_law_path_here"]) (sc := defScope s__law_move) (by decide +kernel)) (fun _ _ _ _ _ => (pg_name (i := 6) sc__law_move.nd rfl (by first | exact Or.inl rfl | exact Or.inr rfl))) (fun _ _ _ _ _ => pts_nil) (fun _ _ _ _ _ => (pe_cmpR op_gt (pe_op op_sub (pe_op (uAdd : OpR _ _ (rAddU K)) (ub_len (f_len T) (pa_cons (pv 3) pa_nil) : PE _ _ (tCB (rLenU K) _)) (ub_len (f_len T) (pa_cons (pv 6) pa_nil) : PE _ _ (tCB (rLenU K) _))) (ub_len (f_len T) (pa_cons (pv 2) pa_nil) : PE _ _ (tCB (rLenU K) _))) pe_int (nomark _)))) pa_nil) : PE _ _ (tCB (rAny K) _))) (pss_one (ps_ret pe_str)) pss_nil) (pss_cons (ps_for PassesOwn.never rfl (pi_list (pv 5)) (pg_name (i := 6) sc__law_move.nd rfl (by first | exact Or.inl rfl | exact Or.inr rfl)) (pss_one (ps_dput (hu_of hr) (pv 0) (pe_op (uAdd : OpR _ _ (rAddU K)) (pv 3) (pe_slice (uSl : SlR _ (rSlU K)) (pv 6) (po_some (ub_len (f_len T) (pa_cons (pv 2) pa_nil) : PE _ _ (tCB (rLenU K) _))) po_none)) (pe_dget (hu_of hr) (pv 0) (pv 6) (fun _ _ => rfl)) rfl))) (pss_cons (ps_if (pt_cmpR (uEq hr.units : OpR _ _ (rEqU K)) (pv 1) pe_str (nomark _)) (pss_one (ps_for PassesOwn.never rfl (pi_list (pv 5)) (pg_name (i := 6) sc__law_move.nd rfl (by first | exact Or.inl rfl | exact Or.inr rfl)) (pss_one (ps_expr (pe_dpop1 (pv 0) (pv 6) ⟨rfl, rfl, rfl, rfl⟩))))) pss_nil) (pss_one (ps_ret pe_str))))))))))))))), ?_⟩
    walk_at "go"
    have same : ∀ (r : Str) (F1 H1 : Hp), Mv N0 F H F1 H1 → Q (.str r) H1 := fun r F1 H1 g1 => k r F1 H1 tb (g1.weak fun _ z => z.elim) (V0.mv g1 fun z => z) (by omega)
    have hk : kvs.length ≤ 500 := by
      rw [hE.length]
      omega
    walk_at "st"
    refine z_dec (fun e1 => ?_) (fun e1 => ?_)
    · walk_at "st"
      exact same _ F H (by walk_at "mv")
    walk_at "st"
    refine z_dec (fun e1' => ?_) (fun e1' => ?_)
    · walk_at "st"
      exact same _ F H (by walk_at "mv")
    walk_at "st"
    refine ⟨F, t, old, kvs, tb, rfl, S, .inl ht, hE, hp, fun r F1 H1 g1 => ?_⟩
    walk_at "st"
    refine z_ndec (fun e2 => ?_) (fun e2 => ?_)
    · walk_at "st"
      exact same _ F1 H1 (by walk_at "mv")
    have ht1 : H1 t = some (.dK kvs) := g1.kp t _ (fun z => z) ht
    walk_at "st"
    rcases hE.get old with ⟨_, q⟩ | ⟨c, v, hc, q, hv⟩
    · rw [q]
      refine z_T ?_
      walk_at "st"
      exact same _ F1 H1 (by walk_at "mv")
    rw [q]
    refine z_F ?_
    walk_at "sj"
    refine z_seqJ (fun σ' H2 => σ' = [some (.ref t), some (.str nm), some (.str old), some (.str new), some (.str r), none, none] ∧ H1 = H2) ?_ (fun N hN => ?_)
    rotate_left
    · walk_at "st"
      refine z_dec (fun e3 => ?_) (fun e3 => ?_)
      · walk_at "st"
        refine z_dec (fun e4 => ?_) (fun e4 => ?_)
        · walk_at "st"
          exact same _ F1 H1 (by walk_at "mv")
        · walk_at "st"
          exact hN _ _ ⟨rfl, rfl⟩
      · walk_at "st"
        exact hN _ _ ⟨rfl, rfl⟩
    rintro σ' H2 ⟨rfl, e0⟩
    subst e0
    walk_at "st"
    refine z_addS (by rw [show ("/" : Str).length = 1 from rfl, sizeLine_eq]; omega) ?_
    refine ⟨_, _, rfl, rfl, ?_⟩
    walk_at "st"
    refine z_ite (fun e3 => ?_) (fun e3 => ?_)
    · walk_at "st"
      exact same _ F1 H1 (by walk_at "mv")
    walk_at "st"
    refine ⟨F1, t, new, kvs, tb, rfl, g1.sub, .inl ht1, hE.mv g1, hp2, fun r2 F2 H2 g2 => ?_⟩
    walk_at "st"
    refine z_ndec (fun e4 => ?_) (fun e4 => ?_)
    · walk_at "st"
      exact same _ F2 H2 (by walk_at "mv")
    have ht2 : H2 t = some (.dK kvs) := g2.kp t _ (fun z => z) ht1
    have f2 : F2 t = none := ((V0.mv g1 fun z => z).mv g2 fun z => z).1
    walk_at "st"
    rcases hE.get new with ⟨_, q2⟩ | ⟨c2, v2, hc2, q2, hv2⟩
    rotate_left
    · rw [q2]
      refine z_T ?_
      walk_at "st"
      exact same _ F2 H2 (by walk_at "mv")
    rw [q2]
    refine z_F ?_
    walk_at "st"
    have hE2 : TabE F2 kvs tb := (hE.mv g1).mv g2
    refine lc_keys (d := t) (kvs := kvs) g2.sub rfl ht2 (.inl f2) (by omega) (fun i acc => ∃ ys : List Str, acc = ys.map V.str ∧ ys.Sublist ((tb.map (·.1)).take i)) ⟨[], rfl, List.Sublist.slnil⟩ (fun i acc ⟨ys, e, hl⟩ => by
      have q := hl.length_le
      rw [List.length_take] at q
      rw [e, List.length_map]
      omega) ?_ ?_
    · rintro i ky v' F3 H3 acc Kk Kn hi g3 s3 _ ext3 rd3 ⟨ys, rfl, hl⟩ hK hN
      obtain ⟨x, hx, r1, r2'⟩ := hE.ix hi
      dsimp only at r1
      subst r1
      dsimp only [kV]
      have tk : (tb.map (·.1)).take (i + 1) = (tb.map (·.1)).take i ++ [x.1] := by
        rw [List.take_succ, List.getElem?_map, hx]
        rfl
      have up : ys.Sublist ((tb.map (·.1)).take (i + 1)) := by
        rw [tk]
        exact hl.trans (List.sublist_append_left ..)
      have put : (ys ++ [x.1]).Sublist ((tb.map (·.1)).take (i + 1)) := by
        rw [tk]
        exact hl.append (List.Sublist.refl _)
      walk_at "st"
      refine ⟨rfl, ?_⟩
      walk_at "st"
      refine z_dec (fun e5 => ?_) (fun e5 => ?_)
      · walk_at "st"
        exact hK _ F3 H3 (Mv.self s3) ⟨ys ++ [x.1], by rw [List.map_append]; rfl, put⟩
      · walk_at "st"
        refine z_addS (by rw [show ("/" : Str).length = 1 from rfl, sizeLine_eq]; omega) ?_
        refine ⟨_, _, rfl, rfl, ?_⟩
        walk_at "st"
        refine z_ite (fun e6 => ?_) (fun e6 => ?_)
        · walk_at "st"
          exact hK _ F3 H3 (Mv.self s3) ⟨ys ++ [x.1], by rw [List.map_append]; rfl, put⟩
        · walk_at "st"
          exact hN F3 H3 (Mv.self s3) ⟨ys, rfl, up⟩
    rintro D F3 H3 acc g3 hD hD3 ⟨ys, rfl, hsub⟩
    have hsub2 : ys.Sublist (tb.map (·.1)) := hsub.trans (List.take_sublist _ _)
    have ynd : ys.Nodup := hO.nd.sublist hsub2
    have ymem : ∀ y ∈ ys, y ∈ tb.map (·.1) := fun y hy => hsub2.subset hy
    have y60 : ∀ y ∈ ys, y.length ≤ 60 := fun y hy => by
      obtain ⟨e, he, q⟩ := List.mem_map.mp (ymem y hy)
      rw [← q]
      exact hO.key e he
    have ylen : ys.length ≤ tb.length := by
      have q := hsub2.length_le
      rw [List.length_map] at q
      exact q
    walk_at "st"
    refine z_cL (SqL.of (by walk_at "ha")) (lc_W (M := N0) g3.sub walk_list (fun i F4 H4 acc => SqL K H4 D (ys.map V.str) ∧ acc = (ys.take i).map fun y => V.bl (decide (60 < (new.length : Int) + y.length - old.length))) ?_ ⟨SqL.of (by walk_at "ha"), rfl⟩ (fun i F4 H4 acc _ _ p => p.1) (fun i F4 H4 acc p => by rw [p.2, List.length_map, List.length_take]; omega) (by rw [List.length_map]; omega) ?_ (fun _ z => z.elim) ?_)
    · rintro i F4 H4 acc D2 H5 hD2 g4 ⟨p1, p2⟩ g5
      refine ⟨SqL.of (g5.kp D _ (fun e => ?_) ?_), p2⟩
      · rw [← e] at hD2
        rw [g3.sub.l hD3] at hD2
        cases hD2
      · exact g4.kp D _ (fun z => z) (g3.sub.l hD3)
    · rintro i x F4 H4 H4' acc Kk Kn hi g4 ⟨p1, rfl⟩ ⟨rfl, hx⟩ hK hN
      obtain ⟨y, hy, rfl⟩ := strs_ix hx
      have hy60 := y60 y (List.mem_of_getElem? hy)
      walk_at "st"
      refine ⟨rfl, ?_⟩
      walk_at "st"
      refine z_lenS (by rw [sizeLine_eq]; omega) ?_
      walk_at "st"
      refine z_lenS (by rw [sizeLine_eq]; omega) ?_
      walk_at "st"
      refine z_lenS (by rw [sizeLine_eq]; omega) ?_
      walk_at "st"
      refine hK _ F4 _ (Mv.self g4.sub) ⟨p1, ?_⟩
      rw [List.take_succ, hy, List.map_append]
      rfl
    rintro D2 F4 H4 F5 acc hD2 g4 ⟨p1, rfl⟩ g5 hD5
    rw [List.length_map, List.take_length] at hD5
    have gg : Mv N0 F3 H3 F5 H4 := g5.step (fun a e => .inr (by rw [e]; exact hD2)) g4
    refine ⟨D2, ys.map fun y => decide (60 < (new.length : Int) + y.length - old.length), rfl, SqL.of (gg.sub.l (by rw [List.map_map]; exact hD5)), ?_⟩
    walk_at "st"
    refine z_ite (fun e5 => ?_) (fun e5 => ?_)
    · walk_at "st"
      exact same _ F5 H4 (by walk_at "mv")
    have nlen : ∀ y ∈ ys, (new.length : Int) + y.length - old.length ≤ 60 := fun y hy => by
      have q := List.any_eq_false.mp e5 (decide (60 < (new.length : Int) + y.length - old.length)) (List.mem_map.mpr ⟨y, hy, rfl⟩)
      simpa using q
    walk_at "st"
    have V5 : TabV F5 H4 t tb := ((((V0.mv g1 fun z => z).mv g2 fun z => z).mv g3 fun z => z).mv gg fun z => z)
    have hL5 : F5 D = some (.lst (ys.map V.str)) := gg.ext _ _ hD3
    refine z_fL (SqL.of (gg.sub.l hL5)) (for_W walk_list (fun i σ H6 => ∃ (F6 : Hp) (o : Option V) (tb6 : Tab), σ = [some (.ref t), some (.str nm), some (.str old), some (.str new), some (.str r2), some (.ref D), o] ∧ Mv (Mt t) F5 H4 F6 H6 ∧ TabV F6 H6 t tb6 ∧ tb6.length ≤ tb.length + i ∧ (∀ y ∈ ys, y ∈ tb6.map (·.1)))
      ⟨F5, _, tb, rfl, Mv.self gg.sub, V5, by omega, ymem⟩ (fun i σ H6 _ ⟨F6, _, _, _, g6, _⟩ => SqL.of (g6.sub.l (g6.ext _ _ hL5))) ?_ ?_)
    · rintro i x σ H6 H6' hi ⟨F6, o, tb6, rfl, g6, ⟨f6, kvs6, h6, hE6, hO6⟩, hl6, hm6⟩ ⟨rfl, hx⟩
      obtain ⟨y, hy, rfl⟩ := strs_ix hx
      have hym := List.mem_of_getElem? hy
      have hy60 := y60 y hym
      walk_at "st"
      rcases hE6.get y with ⟨q, _⟩ | ⟨c6, v6, q', q, hv6⟩
      · exact absurd (hm6 y hym) (aget_none.mp q)
      refine z_at (.inl h6) q ?_
      walk_at "st"
      refine z_lenS (by rw [sizeLine_eq]; omega) ?_
      walk_at "st"
      refine z_slS (by rw [sizeLine_eq]; omega) ?_
      have cl := cutS_len y old.length
      have nl := nlen y hym
      refine z_addS (by rw [cl, sizeLine_eq]; omega) ?_
      have al : (new ++ cutS y (some (old.length : Int)) none : Str).length = new.length + (cutS y (some (old.length : Int)) none).length := PySem.Str.length_append _ _
      refine z_put h6 (by rw [hE6.length, sizeLine_eq]; rw [List.length_map] at hi; omega) g6.sub f6 fun F7 H7 g7 f7 h7 => ?_
      refine ⟨F7, _, _, rfl, g7.step (fun a z => .inl z) g6, ⟨f7, _, h7, (hE6.mv g7).put (hv6.mono g7.ext) _, hO6.put (by rw [al, cl]; omega) (fun ns z => hO6.get (by rw [q', z]))⟩, ?_, fun z hz => aput_has (hm6 z hz)⟩
      have := aput_length (t := tb6) (p := (new ++ cutS y (some (old.length : Int)) none : Str)) (c := c6)
      omega
    rintro σ H6 ⟨F6, o, tb6, rfl, g6, V6, hl6, hm6⟩
    rw [List.length_map] at hl6
    walk_at "st"
    refine z_dec (fun e7 => ?_) (fun e7 => ?_)
    rotate_left
    · walk_at "st"
      exact k _ F6 H6 tb6 (by walk_at "mv") V6 (by omega)
    walk_at "st"
    have hL6 : F6 D = some (.lst (ys.map V.str)) := g6.ext _ _ hL5
    refine z_fL (SqL.of (g6.sub.l hL6)) (for_W walk_list (fun i σ H7 => ∃ (F7 : Hp) (o : Option V) (tb7 : Tab), σ = [some (.ref t), some (.str nm), some (.str old), some (.str new), some (.str r2), some (.ref D), o] ∧ Mv (Mt t) F6 H6 F7 H7 ∧ TabV F7 H7 t tb7 ∧ tb7.length ≤ tb6.length ∧ (∀ y ∈ ys.drop i, y ∈ List.map Prod.fst tb7))
      ⟨F6, _, tb6, rfl, Mv.self g6.sub, V6, by omega, hm6⟩ (fun i σ H7 _ ⟨F7, _, _, _, g7, _⟩ => SqL.of (g7.sub.l (g7.ext _ _ hL6))) ?_ ?_)
    · rintro i x σ H7 H7' hi ⟨F7, o, tb7, rfl, g7, ⟨f7, kvs7, h7, hE7, hO7⟩, hl7, hm7⟩ ⟨rfl, hx⟩
      obtain ⟨y, hy, rfl⟩ := strs_ix hx
      have hi' : i < ys.length := (List.getElem?_eq_some_iff.mp hy).1
      have hd : ys.drop i = y :: ys.drop (i + 1) := by
        rw [List.drop_eq_getElem_cons hi']
        congr 1
        have := (List.getElem?_eq_some_iff.mp hy).2
        exact this
      walk_at "st"
      rcases hE7.get y with ⟨q, _⟩ | ⟨c7, v7, q', q, hv7⟩
      · exact absurd (hm7 y (by rw [hd]; exact List.mem_cons_self ..)) (aget_none.mp q)
      refine z_pop h7 q g7.sub f7 fun F8 H8 g8 f8 h8 => ?_
      refine ⟨F8, _, _, rfl, g8.step (fun a z => .inl z) g7, ⟨f8, _, h8, (hE7.mv g8).del y, hO7.del⟩, ?_, fun z hz => ?_⟩
      · have := adel_length (t := tb7) (p := y)
        omega
      · refine adel_has (fun e => ?_) (hm7 z (by rw [hd]; exact List.mem_cons_of_mem _ hz))
        have nd : (y :: ys.drop (i + 1)).Nodup := by
          rw [← hd]
          exact ynd.sublist (List.drop_sublist _ _)
        rw [e] at hz
        exact (List.nodup_cons.mp nd).1 hz
    rintro σ H7 ⟨F7, o, tb7, rfl, g7, V7, hl7, _⟩
    walk_at "st"
    exact k _ F7 H7 tb7 (by walk_at "mv") V7 (by omega)
end Cm
namespace Cm
open PySem PySem.Spec PySem.Calls L2 U Hd
variable {w : World} {K : PySem.W.Frag} {mg : Str → Option Value} {base : Heap}
theorem sc__law_weight : FnScope ["_law_table_here", "_law_total", "_law_path_here", "_law_words_here", "_law_k", "_law_word_here"] ["_law_table_here"] (defScope s__law_weight) := ⟨rfl, rfl, rfl, by decide +kernel, rfl, by decide +kernel, by decide +kernel⟩
theorem bd__law_weight (kV doc pm : Value) (an : Option Addr) (cdv ct : Value) : ∀ us : List Value, us.length = (["_law_table_here"] : List Str).length → bindArgs (PySem.W.fnOf "_law_weight" "_law_weight" (defArgs s__law_weight) (defBody s__law_weight) (defScope s__law_weight) .none kV doc pm an cdv ct) ⟨us, []⟩ = pure ((["_law_table_here"] : List Str).zip us) :=
  fun us hl => match us, hl with | [_], _ => rfl
theorem sc__law_twin : FnScope ["_law_table_here", "_law_new", "_law_path_here"] ["_law_table_here"] (defScope s__law_twin) := ⟨rfl, rfl, rfl, by decide +kernel, rfl, by decide +kernel, by decide +kernel⟩
theorem bd__law_twin (kV doc pm : Value) (an : Option Addr) (cdv ct : Value) : ∀ us : List Value, us.length = (["_law_table_here"] : List Str).length → bindArgs (PySem.W.fnOf "_law_twin" "_law_twin" (defArgs s__law_twin) (defBody s__law_twin) (defScope s__law_twin) .none kV doc pm an cdv ct) ⟨us, []⟩ = pure ((["_law_table_here"] : List Str).zip us) :=
  fun us hl => match us, hl with | [_], _ => rfl
theorem sc__law_table : FnScope ["_law_pot_here", "_law_table_here", "_law_count", "_law_k", "_law_call", "_law_new"] ["_law_pot_here", "_law_table_here", "_law_count"] (defScope s__law_table) := ⟨rfl, rfl, rfl, by decide +kernel, rfl, by decide +kernel, by decide +kernel⟩
theorem bd__law_table (kV doc pm : Value) (an : Option Addr) (cdv ct : Value) : ∀ us : List Value, us.length = (["_law_pot_here", "_law_table_here", "_law_count"] : List Str).length → bindArgs (PySem.W.fnOf "_law_table" "_law_table" (defArgs s__law_table) (defBody s__law_table) (defScope s__law_table) .none kV doc pm an cdv ct) ⟨us, []⟩ = pure ((["_law_pot_here", "_law_table_here", "_law_count"] : List Str).zip us) :=
  fun us hl => match us, hl with | [_, _, _], _ => rfl
def spChanged : Sp := fun vs H Q _ => ∃ (F : Hp) (t c : Addr) (cs : List V) (tb : Tab), vs = [.ref t, .ref c] ∧ Sub F H ∧ TabV F H t tb ∧ F c = some (.tup cs) ∧ TCall F cs ∧ tb.length ≤ 500 ∧
  ∀ (r : Str) (F' H' : Hp) (tb' : Tab), Mv (Mt t) F H F' H' → TabV F' H' t tb' → tb'.length ≤ 2 * tb.length + 1 → Q (.str r) H'
theorem ok_changed (T : Tx w K mg) : FnG Pr w K mg base CX0 4 "_law_changed" ["_law_table_here", "_law_call"] spChanged := by
  have G__law_make : FnG Pr w K mg base CX0 2 "_law_make" ["_law_table_here", "_law_name", "_law_path_here"] spMake := ok_make T
  have G__law_fill : FnG Pr w K mg base CX0 3 "_law_fill" ["_law_table_here", "_law_call"] spFill := ok_fill T
  have G__law_remove : FnG Pr w K mg base CX0 2 "_law_remove" ["_law_table_here", "_law_path_here"] spRemove := ok_remove T
  have G__law_move : FnG Pr w K mg base CX0 2 "_law_move" ["_law_table_here", "_law_name", "_law_old", "_law_new"] spMove := ok_move T
  refine okG (df__law_changed T) sc__law_changed bd__law_changed (fun vs H Q E h => ?_) (fun f cdv A outer s H vs Q E hr h => ?_)
  · obtain ⟨_, _, _, _, _, rfl, _⟩ := h
    rfl
  · obtain ⟨F, t, c, cs, tb, rfl, S, V0, hc, hC, hn, k⟩ := h
    refine ⟨_, (pss_cons (ps_if (PW.pt (pw_or (pt_cmpR (uEq hr.units : OpR _ _ (rEqU K)) (pe_ix (ix_seq : IxR _ (rIx K)) (pv 1) pe_int (fun _ _ => rfl)) pe_str (nomark _)) (pw_or1 (pt_cmpR (uEq hr.units : OpR _ _ (rEqU K)) (pe_ix (ix_seq : IxR _ (rIx K)) (pv 1) pe_int (fun _ _ => rfl)) pe_str (nomark _))))) (pss_one (ps_ret (pe_callG G__law_make (hr.mono (by first | decide | omega)) (by rfl) pass0 (pa_cons (pv 0) (pa_cons (pe_ix (ix_seq : IxR _ (rIx K)) (pv 1) pe_int (fun _ _ => rfl)) (pa_cons (pe_ix (ix_seq : IxR _ (rIx K)) (pv 1) pe_int (fun _ _ => rfl)) pa_nil)))))) pss_nil) (pss_cons (ps_if (PW.pt (pw_or (pt_cmpR (uEq hr.units : OpR _ _ (rEqU K)) (pe_ix (ix_seq : IxR _ (rIx K)) (pv 1) pe_int (fun _ _ => rfl)) pe_str (nomark _)) (pw_or1 (pt_cmpR (uEq hr.units : OpR _ _ (rEqU K)) (pe_ix (ix_seq : IxR _ (rIx K)) (pv 1) pe_int (fun _ _ => rfl)) pe_str (nomark _))))) (pss_one (ps_ret (pe_callG G__law_fill (hr.mono (by first | decide | omega)) (by rfl) pass0 (pa_cons (pv 0) (pa_cons (pv 1) pa_nil))))) pss_nil) (pss_cons (ps_if (pt_cmpR (uEq hr.units : OpR _ _ (rEqU K)) (pe_ix (ix_seq : IxR _ (rIx K)) (pv 1) pe_int (fun _ _ => rfl)) pe_str (nomark _)) (pss_one (ps_ret (pe_callG G__law_remove (hr.mono (by first | decide | omega)) (by rfl) pass0 (pa_cons (pv 0) (pa_cons (pe_ix (ix_seq : IxR _ (rIx K)) (pv 1) pe_int (fun _ _ => rfl)) pa_nil))))) pss_nil) (pss_one (ps_ret (pe_callG G__law_move (hr.mono (by first | decide | omega)) (by rfl) pass0 (pa_cons (pv 0) (pa_cons (pe_ix (ix_seq : IxR _ (rIx K)) (pv 1) pe_int (fun _ _ => rfl)) (pa_cons (pe_ix (ix_seq : IxR _ (rIx K)) (pv 1) pe_int (fun _ _ => rfl)) (pa_cons (pe_ix (ix_seq : IxR _ (rIx K)) (pv 1) pe_int (fun _ _ => rfl)) pa_nil)))))))))), ?_⟩
    walk_at "go"
    walk_at "st"
    have no : ∀ {a b : Str} {A B : Prop}, a ≠ b → B → if decide (a = b) = true then A else B := fun {a b A B} h q => z_dec (fun e => absurd e h) fun _ => q
    have yes : ∀ {a : Str} {A B : Prop}, A → if decide (a = a) = true then A else B := fun {a A B} q => z_dec (fun _ => q) fun e => absurd rfl e
    cases hC with
    | mk h =>
      refine z_ixT (by walk_at "ha") rfl ?_
      walk_at "st"
      refine yes ?_
      walk_at "st"
      refine ⟨F, t, _, _, tb, rfl, S, V0, h, by omega, fun r F1 H1 tb1 g1 V1 hl => k r F1 H1 tb1 g1 V1 (by omega)⟩
    | cr h =>
      refine z_ixT (by walk_at "ha") rfl ?_
      walk_at "st"
      refine no (by decide) ?_
      walk_at "st"
      refine yes ?_
      walk_at "st"
      refine ⟨F, t, _, _, tb, rfl, S, V0, h, by omega, fun r F1 H1 tb1 g1 V1 hl => k r F1 H1 tb1 g1 V1 (by omega)⟩
    | rm h =>
      refine z_ixT (by walk_at "ha") rfl ?_
      walk_at "st"
      refine no (by decide) ?_
      walk_at "st"
      refine no (by decide) ?_
      walk_at "st"
      refine no (by decide) ?_
      walk_at "st"
      refine no (by decide) ?_
      walk_at "st"
      refine yes ?_
      walk_at "st"
      refine ⟨F, t, _, tb, rfl, S, V0, h, by omega, fun r F1 H1 tb1 g1 V1 hl => k r F1 H1 tb1 g1 V1 (by omega)⟩
    | wr h h0 h1 ha hw =>
      refine z_ixT (by walk_at "ha") rfl ?_
      walk_at "st"
      refine no (by decide) ?_
      walk_at "st"
      refine no (by decide) ?_
      walk_at "st"
      refine yes ?_
      walk_at "st"
      refine ⟨F, t, c, _, _, tb, rfl, S, V0, hc, .wr h0 h1 ha, h, by omega, fun r F1 H1 tb1 g1 V1 hl => k r F1 H1 tb1 g1 V1 (by omega)⟩
    | tr h h0 h1 =>
      refine z_ixT (by walk_at "ha") rfl ?_
      walk_at "st"
      refine no (by decide) ?_
      walk_at "st"
      refine no (by decide) ?_
      walk_at "st"
      refine no (by decide) ?_
      walk_at "st"
      refine yes ?_
      walk_at "st"
      refine ⟨F, t, c, _, _, tb, rfl, S, V0, hc, .tr h0 h1, h, by omega, fun r F1 H1 tb1 g1 V1 hl => k r F1 H1 tb1 g1 V1 (by omega)⟩
    | mv h h' =>
      refine z_ixT (by walk_at "ha") rfl ?_
      walk_at "st"
      refine no (by decide) ?_
      walk_at "st"
      refine no (by decide) ?_
      walk_at "st"
      refine no (by decide) ?_
      walk_at "st"
      refine no (by decide) ?_
      walk_at "st"
      refine no (by decide) ?_
      walk_at "st"
      refine ⟨F, t, _, _, _, tb, rfl, S, V0, h, h', by omega, fun r F1 H1 tb1 g1 V1 hl => k r F1 H1 tb1 g1 V1 (by omega)⟩
    | cp h h' =>
      refine z_ixT (by walk_at "ha") rfl ?_
      walk_at "st"
      refine no (by decide) ?_
      walk_at "st"
      refine no (by decide) ?_
      walk_at "st"
      refine no (by decide) ?_
      walk_at "st"
      refine no (by decide) ?_
      walk_at "st"
      refine no (by decide) ?_
      walk_at "st"
      refine ⟨F, t, _, _, _, tb, rfl, S, V0, h, h', by omega, fun r F1 H1 tb1 g1 V1 hl => k r F1 H1 tb1 g1 V1 (by omega)⟩
theorem aget_nd {α : Type} {t : List (Str × α)} (hn : (t.map (·.1)).Nodup) {i : Nat} {x : Str × α} (h : t[i]? = some x) : aget t x.1 = some x.2 := by
  induction t generalizing i with
  | nil => simp at h
  | cons e t ih =>
    obtain ⟨n1, n2⟩ := List.nodup_cons.mp (show (e.1 :: t.map (·.1)).Nodup from hn)
    cases i with
    | zero =>
      simp at h
      subst h
      simp [aget]
    | succ i =>
      have h' : t[i]? = some x := by simpa using h
      have ne : e.1 ≠ x.1 := fun z => n1 (List.mem_map.mpr ⟨x, List.mem_of_getElem? h', z.symm⟩)
      have := ih n2 h'
      simp only [aget, List.find?_cons, ne, decide_false] at this ⊢
      exact this
def spTwin : Sp := fun vs H Q _ => ∃ (F : Hp) (t : Addr) (tb : Tab), vs = [.ref t] ∧ Sub F H ∧ (∀ kvs, F t = some (.dK kvs) → H t = some (.dK kvs)) ∧ TabF F t tb ∧
  ∀ (d : Addr) (F' H' : Hp), Mv N0 F H F' H' → H d = none → TabV F' H' d tb → Q (.ref d) H'
theorem ok_twin (T : Tx w K mg) : FnG Pr w K mg base CX0 1 "_law_twin" ["_law_table_here"] spTwin := by
  refine okG (df__law_twin T) sc__law_twin bd__law_twin (fun vs H Q E h => ?_) (fun f cdv A outer s H vs Q E hr h => ?_)
  · obtain ⟨_, _, _, rfl, _⟩ := h
    rfl
  · obtain ⟨F, t, tb, rfl, S, hun, ⟨kvs, ht, hE, hO, hn⟩, k⟩ := h
    refine ⟨_, (pss_cons (ps_set (i := 1) sc__law_twin.nd rfl (by first | exact Or.inl rfl | exact Or.inr rfl) pe_dnewK) (pss_cons (ps_lock (ps_for PassesOwn.never rfl (pi_keys (pv 0)) (pg_name (i := 2) sc__law_twin.nd rfl (by first | exact Or.inl rfl | exact Or.inr rfl)) (pss_one (ps_dput (hu_of hr) (pv 1) (pv 2) (pe_dget (hu_of hr) (pv 0) (pv 2) (fun _ _ => rfl)) rfl)))) (pss_one (ps_ret (pv 1))))), ?_⟩
    walk_at "go"
    walk_at "st"
    refine z_dnew fun d H1 n1 => ?_
    obtain ⟨F1, g1, f1, hd0, hd1⟩ := n1.vo S
    walk_at "st"
    have ht1 : H1 t = some (.dK kvs) := g1.kp t _ (fun z => z) (hun kvs ht)
    have tne : t ≠ d := fun e => by
      rw [e] at ht
      rw [S.free hd0] at ht
      cases ht
    refine for_keys (d := t) (kvs := kvs) (M := fun a => a = d) g1.sub rfl ht1 (.inr (g1.ext _ _ ht)) tne (fun i σ F2 H2 => ∃ (o : Option V) (kvs2 : List (Key × V)), σ = [some (.ref t), some (.ref d), o] ∧ F2 d = none ∧ H2 d = some (.dK kvs2) ∧ TabE F2 kvs2 (tb.take i)) ?_ ?_ ?_
    · intro od
      exact ⟨_, [], rfl, f1, by rw [upd_ne tne.symm]; exact hd1, .nil⟩
    · rintro od i ky v σ F2 H2 N rt' bk' hi g2 l2 ⟨o, kvs2, rfl, f2, h2, e2⟩ hN
      obtain ⟨x, hx, r1, r2⟩ := hE.ix hi
      dsimp only at r1
      subst r1
      dsimp only [kV]
      have hag := aget_nd hO.nd hx
      rcases hE.get x.1 with ⟨q, _⟩ | ⟨c, v2, q', q, hv⟩
      · rw [hag] at q
        cases q
      rw [hag] at q'
      obtain rfl := Option.some.inj q'
      walk_at "st"
      refine z_at (.inr ⟨od, l2⟩) q ?_
      walk_at "st"
      refine z_put h2 (by rw [e2.length, List.length_take, sizeLine_eq]; omega) g2.sub f2 fun F3 H3 g3 f3 h3 => ?_
      have hx' : i < tb.length := (List.getElem?_eq_some_iff.mp hx).1
      have nin : x.1 ∉ (tb.take i).map (·.1) := fun m => by
        have z : (tb.map (·.1)).take (i + 1) = (tb.take i).map (·.1) ++ [x.1] := by
          rw [List.take_succ, List.getElem?_map, hx, List.map_take]
          rfl
        have nd := hO.nd.sublist (List.take_sublist (i + 1) _)
        rw [z] at nd
        exact (List.nodup_append.mp nd).2.2 _ m _ (List.mem_singleton.mpr rfl) rfl
      have ea : aput (tb.take i) x.1 x.2 = tb.take (i + 1) := by
        unfold aput
        rw [if_neg, List.take_succ, hx]
        · rfl
        · intro z
          obtain ⟨e, he, q⟩ := List.any_eq_true.mp z
          exact nin (List.mem_map.mpr ⟨e, he, of_decide_eq_true q⟩)
      refine hN _ F3 H3 g3 ⟨_, _, rfl, f3, h3, ?_⟩
      rw [← ea]
      exact (e2.mv g3).put ((hv.mono g1.ext).mono (fun b o h => g3.ext b o (g2.ext b o h))) x.1
    · rintro od σ F2 H2 gu g2 ⟨o, kvs2, rfl, f2, h2, e2⟩
      walk_at "st"
      refine k d F2 _ (gu.step (fun a e => .inr (by rw [e]; exact hd0)) (g1.weak fun _ z => z)) hd0 ⟨f2, kvs2, by rw [upd_ne tne.symm]; exact h2, ?_, hO⟩
      rw [hE.length, List.take_length] at e2
      exact e2
end Cm
namespace Cm
open PySem PySem.Spec PySem.Calls L2 U Hd
variable {w : World} {K : PySem.W.Frag} {mg : Str → Option Value} {base : Heap}
def spWeight : Sp := fun vs H Q _ => ∃ (F : Hp) (t : Addr) (tb : Tab), vs = [.ref t] ∧ Sub F H ∧ TabV F H t tb ∧ tb.length ≤ 2000 ∧
  ∀ (r : Int) (F' H' : Hp), Mv N0 F H F' H' → (tb.length : Int) ≤ r → Q (.int r) H'
theorem ok_weight (T : Tx w K mg) : FnG Pr w K mg base CX0 1 "_law_weight" ["_law_table_here"] spWeight := by
  refine okG (df__law_weight T) sc__law_weight bd__law_weight (fun vs H Q E h => ?_) (fun f cdv A outer s H vs Q E hr h => ?_)
  · obtain ⟨_, _, _, rfl, _⟩ := h
    rfl
  · obtain ⟨F, t, tb, rfl, S, V0, hn, k⟩ := h
    obtain ⟨ft, kvs, ht, hE, hO⟩ := V0
    have hk : kvs.length = tb.length := hE.length
    refine ⟨_, (pss_cons (ps_set (i := 1) sc__law_weight.nd rfl (by first | exact Or.inl rfl | exact Or.inr rfl) (ub_len (f_len T) (pa_cons (pv 0) pa_nil) : PE _ _ (tCB (rLenU K) _))) (pss_cons (ps_lock (ps_for PassesOwn.never rfl (pi_keys (pv 0)) (pg_name (i := 2) sc__law_weight.nd rfl (by first | exact Or.inl rfl | exact Or.inr rfl)) (pss_cons (ps_set (i := 3) sc__law_weight.nd rfl (by first | exact Or.inl rfl | exact Or.inr rfl) (pe_dget (hu_of hr) (pv 0) (pv 2) (fun _ _ => rfl))) (pss_one (ps_if (pt_cmp (pc_notN (pv 3))) (pss_one (ps_for PassesOwn.never rfl (pi_range1 (by rfl) (f_range T) (pa_cons (pe_op op_fdiv (pe_op (uAdd : OpR _ _ (rAddU K)) (ub_len (f_len T) (pa_cons (pv 3) pa_nil) : PE _ _ (tCB (rLenU K) _)) pe_int) pe_int) pa_nil)) (pg_name (i := 4) sc__law_weight.nd rfl (by first | exact Or.inl rfl | exact Or.inr rfl)) (pss_one (ps_set (i := 1) sc__law_weight.nd rfl (by first | exact Or.inl rfl | exact Or.inr rfl) (pe_op (uAdd : OpR _ _ (rAddU K)) (pv 1) (ub_int (f_int T) (pa_cons (ub_any (f_any T) (pa_cons (pe_lc (own := [("_law_word_here", 5)]) rfl sc__law_weight.nd (pi_list (pe_slice (uSl : SlR _ (rSlU K)) (pv 3) (po_some (pe_op uMul pe_int (pv 4))) (po_some (pe_op (uAdd : OpR _ _ (rAddU K)) (pe_op uMul pe_int (pv 4)) pe_int)))) (blkOk_by (N := ["_law_table_here", "_law_total", "_law_path_here", "_law_words_here", "_law_k", "_law_word_here"]) (sc := defScope s__law_weight) (by decide +kernel)) (fun _ _ _ _ _ => (pg_name (i := 5) sc__law_weight.nd rfl (by first | exact Or.inl rfl | exact Or.inr rfl))) (fun _ _ _ _ _ => pts_nil) (fun _ _ _ _ _ => (pe_cmpR (uNe hr.units : OpR _ _ (rNeU K)) (pv 5) pe_int (nomark _)))) pa_nil) : PE _ _ (tCB (rAny K) _)) pa_nil))))))) pss_nil))))) (pss_one (ps_ret (pv 1))))), ?_⟩
    walk_at "go"
    walk_at "st"
    refine for_keys (d := t) (kvs := kvs) (M := N0) S rfl ht (.inl ft) (fun z => z) (fun i σ F2 H2 => ∃ (r : Int) (o o2 o3 : Option V), σ = [some (.ref t), some (.int r), o, o2, o3, none] ∧ (tb.length : Int) ≤ r) ?_ ?_ ?_
    · intro od
      exact ⟨_, _, _, _, rfl, by omega⟩
    · rintro od i ky v σ F2 H2 N rt' bk' hi g2 l2 ⟨r, o, o2, o3, rfl, hr1⟩ hN
      obtain ⟨x, hx, r1, r2⟩ := hE.ix hi
      dsimp only at r1
      subst r1
      dsimp only [kV]
      have hag := aget_nd hO.nd hx
      rcases hE.get x.1 with ⟨q, _⟩ | ⟨c, v2, q', q, hv⟩
      · rw [hag] at q
        cases q
      rw [hag] at q'
      obtain rfl := Option.some.inj q'
      have len := fun (ns : List Int) (z : x.2 = some ns) => hO.get (p := x.1) (ns := ns) (by rw [hag, z])
      walk_at "st"
      refine z_at (.inr ⟨od, l2⟩) q ?_
      walk_at "st"
      cases hc : x.2 with
      | none =>
        rw [hc] at hv
        cases hv
        refine z_ndec (fun e => absurd rfl e) (fun e => ?_)
        walk_at "st"
        exact hN _ F2 H2 (Mv.self g2.sub) ⟨_, _, _, _, rfl, hr1⟩
      | some ns =>
        rw [hc] at hv
        obtain ⟨a, rfl, ha⟩ := hv
        have hns := len ns hc
        have ha2 : F2 a = some (.lst (ns.map V.int)) := g2.ext _ _ ha
        refine z_ndec (fun _ => ?_) (fun e => by cases e)
        walk_at "st"
        refine z_fR1 (by rw [List.length_map]; omega) (by rw [List.length_map]; omega) (for_W walk_range (fun j σ H3 => ∃ (F3 : Hp) (r : Int) (o3 : Option V), σ = [some (.ref t), some (.int r), some (.str x.1), some (.ref a), o3, none] ∧ (tb.length : Int) ≤ r ∧ Mv N0 F2 H2 F3 H3) ⟨F2, r, o3, rfl, hr1, Mv.self g2.sub⟩ (fun _ _ _ _ _ => trivial) ?_ ?_)
        · rintro j y σ H3 H3' hj ⟨F3, r, o3, rfl, hr2, g3⟩ ⟨rfl, rfl⟩
          have hj' : (j : Int) < 1000 := by
            rw [List.length_map] at hj
            omega
          walk_at "st"
          rename_i sl F4 H4 g4 hsl
          rw [cutV_midI _ (by omega) (by omega), ← List.map_drop, ← List.map_take] at hsl
          refine z_cL (SqL.of (by walk_at "ha")) (lc_W (M := N0) g4.sub walk_list (fun i F5 H5 acc => ∃ bs : List Bool, acc = bs.map V.bl ∧ bs.length = i) (fun _ _ _ _ _ _ _ _ h _ => h) ⟨[], rfl, rfl⟩ (fun i F5 H5 acc _ g5 _ => SqL.of (g5.sub.l (g5.ext _ _ hsl))) (fun i F5 H5 acc ⟨bs, e, hl⟩ => by rw [e, List.length_map]; omega) (by rw [List.length_map, List.length_take]; omega) ?_ (fun _ z => z.elim) ?_)
          · rintro i2 z F5 H5 H5' acc Kk Kn hi2 g5 ⟨bs, rfl, hl⟩ ⟨rfl, hz⟩ hK hN2
            obtain ⟨n, hn2, rfl⟩ := ints_ix hz
            walk_at "st"
            refine ⟨rfl, ?_⟩
            walk_at "st"
            exact hK _ F5 _ (Mv.self g5.sub) ⟨bs ++ [_], by rw [List.map_append]; rfl, by simp [hl]⟩
          rintro D F5 H5 F6 acc hD g5 ⟨bs, rfl, hl⟩ g6 hD6
          refine ⟨D, bs, rfl, SqL.of (g6.sub.l hD6), ?_⟩
          walk_at "st"
          refine ⟨F6, _, _, rfl, ?_, ?_⟩
          · split <;> omega
          · exact (g6.step (fun a e => .inr (by rw [e]; exact hD)) g5).step (fun a z => z.elim) (g4.step (fun a z => z.elim) g3)
        · rintro σ H3 ⟨F3, r, o3, rfl, hr2, g3⟩
          exact hN _ F3 H3 g3 ⟨_, _, _, _, rfl, hr2⟩
    · rintro od σ F2 H2 gu g2 ⟨r, o, o2, o3, rfl, hr1⟩
      walk_at "st"
      exact k r F2 _ gu hr1
/-- a finished small table, not locked -/
def TabU (F H : Hp) (a : Addr) (t : Tab) : Prop := ∃ kvs, F a = some (.dK kvs) ∧ H a = some (.dK kvs) ∧ TabE F kvs t ∧ TabOk t ∧ t.length ≤ 50
theorem TabU.mv {M : Addr → Prop} {F H F' H' : Hp} {a : Addr} {t : Tab} (h : TabU F H a t) (g : Mv M F H F' H') (n : ¬ M a) : TabU F' H' a t := by
  obtain ⟨kvs, h1, h2, h3, h4⟩ := h
  exact ⟨kvs, g.ext _ _ h1, g.kp _ _ n h2, h3.mv g, h4⟩
theorem TabU.f {F H : Hp} {a : Addr} {t : Tab} (h : TabU F H a t) : TabF F a t := by
  obtain ⟨kvs, h1, h2, h3, h4, h5⟩ := h
  exact ⟨kvs, h1, h3, h4, by omega⟩
theorem TabU.un {F H : Hp} {a : Addr} {t : Tab} (h : TabU F H a t) : ∀ kvs, F a = some (.dK kvs) → H a = some (.dK kvs) := by
  obtain ⟨kvs, h1, h2, h3, h4⟩ := h
  intro kvs' e
  rw [h1] at e
  cases e
  exact h2
theorem TabU.ne {F H : Hp} {a b : Addr} {t : Tab} (h : TabU F H a t) (f : F b = none) : a ≠ b := fun e => by
  obtain ⟨kvs, h1, _⟩ := h
  rw [e, f] at h1
  cases h1
def spTable : Sp := fun vs H Q _ => ∃ (F : Hp) (p t : Addr) (tb : Tab) (c : Int), vs = [.ref p, .ref t, .int c] ∧ Sub F H ∧ PotOk F H p ∧ TabU F H t tb ∧ 0 ≤ c ∧ c ≤ 1000 ∧
  ∀ (t' : Addr) (tb' : Tab) (F' H' : Hp), Mv (Mp p) F H F' H' → PotOk F' H' p → TabU F' H' t' tb' → Q (.ref t') H'
theorem ok_table (T : Tx w K mg) : FnG Pr w K mg base CX0 5 "_law_table" ["_law_pot_here", "_law_table_here", "_law_count"] spTable := by
  have G__law_tree_call : FnG Pr w K mg base CX0 4 "_law_tree_call" ["_law_pot_here", "_law_table_here"] spTCall := ok_tcall T
  have G__law_twin : FnG Pr w K mg base CX0 1 "_law_twin" ["_law_table_here"] spTwin := ok_twin T
  have G__law_changed : FnG Pr w K mg base CX0 4 "_law_changed" ["_law_table_here", "_law_call"] spChanged := ok_changed T
  have G__law_weight : FnG Pr w K mg base CX0 1 "_law_weight" ["_law_table_here"] spWeight := ok_weight T
  refine okG (df__law_table T) sc__law_table bd__law_table (fun vs H Q E h => ?_) (fun f cdv A outer s H vs Q E hr h => ?_)
  · obtain ⟨_, _, _, _, _, rfl, _⟩ := h
    rfl
  · obtain ⟨F, p, t, tb, c, rfl, S, P, U0, c0, c1, k⟩ := h
    refine ⟨_, (pss_cons (ps_for PassesOwn.never rfl (pi_range1 (by rfl) (f_range T) (pa_cons (pv 2) pa_nil)) (pg_name (i := 3) sc__law_table.nd rfl (by first | exact Or.inl rfl | exact Or.inr rfl)) (pss_cons (ps_set (i := 4) sc__law_table.nd rfl (by first | exact Or.inl rfl | exact Or.inr rfl) (pe_callG G__law_tree_call (hr.mono (by first | decide | omega)) (by rfl) pass0 (pa_cons (pv 0) (pa_cons (pv 1) pa_nil)))) (pss_cons (ps_set (i := 5) sc__law_table.nd rfl (by first | exact Or.inl rfl | exact Or.inr rfl) (pe_callG G__law_twin (hr.mono (by first | decide | omega)) (by rfl) pass0 (pa_cons (pv 1) pa_nil))) (pss_cons (ps_expr (pe_callG G__law_changed (hr.mono (by first | decide | omega)) (by rfl) pass0 (pa_cons (pv 5) (pa_cons (pv 4) pa_nil)))) (pss_one (ps_if (pt_cmpR op_le (pe_callG G__law_weight (hr.mono (by first | decide | omega)) (by rfl) pass0 (pa_cons (pv 5) pa_nil)) pe_int (nomark _)) (pss_one (ps_set (i := 1) sc__law_table.nd rfl (by first | exact Or.inl rfl | exact Or.inr rfl) (pv 5))) pss_nil)))))) (pss_one (ps_ret (pv 1)))), ?_⟩
    walk_at "go"
    walk_at "st"
    refine z_fR1 (by omega) (by omega) (for_W walk_range (fun j σ H1 => ∃ (F1 : Hp) (t1 : Addr) (tb1 : Tab) (o o2 o3 : Option V), σ = [some (.ref p), some (.ref t1), some (.int c), o, o2, o3] ∧ Mv (Mp p) F H F1 H1 ∧ PotOk F1 H1 p ∧ TabU F1 H1 t1 tb1) ⟨F, t, tb, _, _, _, rfl, Mv.self S, P, U0⟩ (fun _ _ _ _ _ => trivial) ?_ ?_)
    · rintro j y σ H1 H1' hj ⟨F1, t1, tb1, o, o2, o3, rfl, g1, P1, U1⟩ ⟨rfl, rfl⟩
      walk_at "st"
      refine ⟨F1, p, t1, tb1, rfl, g1.sub, P1, U1.f, fun cl cs F2 H2 g2 P2 hc hC => ?_⟩
      walk_at "st"
      have U2 : TabU F2 H2 t1 tb1 := U1.mv g2 (U1.ne P1.f)
      refine ⟨F2, t1, tb1, rfl, g2.sub, U2.un, U2.f, fun d F3 H3 g3 hd V3 => ?_⟩
      walk_at "st"
      have U3 : TabU F3 H3 t1 tb1 := U2.mv g3 fun z => z
      have P3 : PotOk F3 H3 p := P2.mv g3 fun z => z
      obtain ⟨hl⟩ : Nonempty (tb1.length ≤ 50) := ⟨by obtain ⟨_, _, _, _, _, q⟩ := U1; exact q⟩
      refine ⟨F3, d, cl, cs, tb1, rfl, g3.sub, V3, g3.ext _ _ hc, hC.ext g3, by omega, fun r F4 H4 tb4 g4 V4 hl4 => ?_⟩
      walk_at "st"
      have pd : p ≠ d := fun e => by
        obtain ⟨o, ho⟩ := P2.al
        rw [e, hd] at ho
        cases ho
      have P4 : PotOk F4 H4 p := P3.mv g4 pd
      have U4 : TabU F4 H4 t1 tb1 := U3.mv g4 (U3.ne V3.1)
      refine ⟨F4, d, tb4, rfl, g4.sub, V4, by omega, fun r5 F5 H5 g5 hr5 => ?_⟩
      walk_at "st"
      have P5 : PotOk F5 H5 p := P4.mv g5 fun z => z
      have U5 : TabU F5 H5 t1 tb1 := U4.mv g5 fun z => z
      have V5 : TabV F5 H5 d tb4 := V4.mv g5 fun z => z
      have gm : Mv (Mp p) F1 _ F5 H5 := (g5.step (fun a z => z.elim) (g4.step (M := Mp p) (fun a e => .inr (by rw [e]; exact g2.fresh hd)) (g3.step (fun a z => z.elim) g2)))
      refine z_dec (fun e1 => ?_) (fun e1 => ?_)
      · walk_at "st"
        obtain ⟨f5, kvs5, h5, hE5, hO5⟩ := V5
        obtain ⟨F6, g6, h6⟩ := freeze g5.sub f5 h5
        refine ⟨F6, d, tb4, _, _, _, rfl, (g6.step (fun a e => .inr (by rw [e]; exact g2.fresh hd)) gm).step (fun a z => .inl z) g1, P5.mv g6 pd, ⟨kvs5, h6, h5, hE5.mv g6, hO5, by omega⟩⟩
      · walk_at "st"
        exact ⟨F5, t1, tb1, _, _, _, rfl, gm.step (fun a z => .inl z) g1, P5, U5⟩
    · rintro σ H1 ⟨F1, t1, tb1, o, o2, o3, rfl, g1, P1, U1⟩
      walk_at "st"
      exact k t1 tb1 F1 H1 g1 P1 U1
end Cm
/-! U7: {**a, **b}; dict comprehensions; isinstance; data at any depth. -/
namespace U
open PySem PySem.Spec PySem.Calls L2
section
variable {prog : Program} {w : World} {κ : Type} [DecidableEq κ] {knd : KeyKind prog w κ} {A : Around} {E : Value → Shared → Prop} {s : Shared}
theorem dictPut_pairs {d : Addr} {kvs : List (κ × Value)} {k : κ} {key v : Value} {Q : Unit → Shared → Prop} (hkey : knd.is k key = true) (hm : s.heap.DictOf knd d kvs)
    (hQ : ∀ h', h'.DictOf knd d (stored kvs k v) → Heap.SameBut d s.heap h' → Q () { s with heap := h' }) (hsz : kvs.length ≤ sizeLine) :
    wpAny (model prog w) A (dictPut d (knd.hash k) key v) Q E s := by
  obtain ⟨o, es, ep, ho, hc, hd, hk, hp, hn⟩ := hm
  have hes : es.size ≤ sizeLine := by
    have e1 := hp.length
    have e2 : es.toList.length = es.size := by simp
    omega
  unfold dictPut
  refine wpAny_bind (wpAny_dictFind_of hkey ho hd hk ?_)
  have hidx : (es.findIdx? fun e => knd.is k e.key) = kvs.findIdx? fun kv => decide (kv.1 = k) := by
    rw [← hp.findIdx k]; obtain ⟨l⟩ := es; simp
  cases hi : es.findIdx? fun e => knd.is k e.key with
  | some i =>
    refine wpAny_updateDict ho hd (hQ _ ⟨_, _, ep, Heap.get?_update_self _ ho (Obj.isFreed_of_dict (Obj.data_mapDict hd _)), hc.mapDict _, Obj.data_mapDict hd _, hk.modify _ _, ?_, ?_⟩ (Heap.SameBut.update ..))
    · rw [stored, if_pos (any_of_findIdx_some (hidx ▸ hi))]
      have hl : (es.toList.findIdx? fun e => knd.is k e.key) = some i := by rw [← hi]; obtain ⟨l⟩ := es; simp
      have := hp.modify hn hl v
      obtain ⟨l⟩ := es
      simpa using this
    · rw [stored, if_pos (any_of_findIdx_some (hidx ▸ hi)), keys_map_store]; exact hn
  | none =>
    have hnot : k ∉ kvs.map (·.1) := not_mem_of_findIdx_none (hidx ▸ hi)
    have hany : ¬ (kvs.any fun kv => decide (kv.1 = k)) = true := by
      rw [List.any_eq_true]; rintro ⟨kv, hkv, he⟩
      exact hnot (List.mem_map.mpr ⟨kv, hkv, of_decide_eq_true he⟩)
    refine wpAny_updateDictKeys (hz := hes) ho hd (hQ _ ⟨_, _, ep + 1, Heap.get?_update_self _ ho (Obj.isFreed_of_dict (Obj.data_mapDictKeys hd _)), hc.mapDictKeys _, Obj.data_mapDictKeys hd _, hk.push hkey _, ?_, ?_⟩ (Heap.SameBut.update ..))
    · rw [stored, if_neg hany]
      have := hp.append hkey (knd.hash k) v
      obtain ⟨l⟩ := es
      simpa using this
    · rw [stored, if_neg hany, List.map_append, List.nodup_append]
      refine ⟨hn, by simp, ?_⟩
      intro a ha b hb
      simp only [List.map_cons, List.map_nil, List.mem_singleton] at hb
      subst hb
      exact fun e => hnot (e ▸ ha)
theorem Pairs.ix {es : List DictEntry} {kvs : List (κ × Value)} (h : Pairs knd es kvs) {i : Nat} {e : DictEntry} (he : es[i]? = some e) : ∃ kv, kvs[i]? = some kv ∧ knd.is kv.1 e.key = true ∧ e.val = kv.2 := by
  induction h generalizing i with
  | nil => simp at he
  | @cons e0 kv es kvs h1 h2 _ ih =>
    cases i with
    | zero =>
      simp at he
      subst he
      exact ⟨kv, by simp, h1, h2⟩
    | succ i => simpa using ih (by simpa using he)
end
section
variable {prog : Program} {w : World} {A : Around} {E : Value → Shared → Prop} {s : Shared}
theorem merge_pairs {d a : Addr} {kvs vs : List (Key × Value)} {Q : Unit → Shared → Prop} (hd : s.heap.DictOf (mixKind prog w) d kvs) (ha : s.heap.DictOf (mixKind prog w) a vs) (hne : a ≠ d) (hsm : (a == sysModules) = false)
    (hsz : kvs.length + vs.length ≤ sizeLine) (hQ : ∀ h', h'.DictOf (mixKind prog w) d (merged kvs vs) → Heap.SameBut d s.heap h' → Q () { s with heap := h' }) :
    wpAny (model prog w) A (mergeMapping d (.ref a) false) Q E s := by
  have hT : s.TypeIs (.ref a) "dict" := ha.typeIs
  have ha0 := ha
  obtain ⟨o, es, ep, ho, hc, hdat, hk, hp, hn⟩ := ha
  obtain ⟨od, esd, epd, hod, hcd, hdatd, hkd, hpd, hnd⟩ := id hd
  unfold mergeMapping
  refine wpAny_bind (wpAny_isInstance hT (b := true) (by rfl) ?_)
  rw [if_pos rfl]
  refine wpAny_bind (wpAny_specialOf hT PySem.F.slot_dict_iter.lookup (wpAny_bind (wpAny_pure ?_)))
  have e0 : (some (Value.builtin "dict.__iter__") == some (Value.builtin "dict.__iter__")) = true := by decide
  rw [e0]
  dsimp only
  rw [if_neg (by rw [hsm]; exact Bool.false_ne_true)]
  refine wpAny_bind (wpAny_dictEntries hod hdatd ?_)
  have hlen : es.size = vs.length := by rw [← hp.length]; simp
  let I : List Nat → PUnit → Shared → Prop := fun rest _ s' => ∃ i h', rest = List.range' i (es.size - i) ∧ i ≤ es.size ∧ s' = { s with heap := h' } ∧ h'.DictOf (mixKind prog w) d (merged kvs (vs.take i)) ∧ Heap.SameBut d s.heap h'
  have I0 : I (List.range es.size) ⟨⟩ s := ⟨0, s.heap, by rw [List.range_eq_range', Nat.sub_zero], Nat.zero_le _, rfl, by simpa [merged] using hd, Heap.SameBut.refl ..⟩
  have fin : ∀ b s', I [] b s' → Q () s' := by
    rintro b s' ⟨i, h', hr, hi, rfl, dd, sb⟩
    have : es.size - i = 0 := by
      have z := congrArg List.length hr
      rw [List.length_range'] at z
      exact z.symm
    have e : i = vs.length := by omega
    rw [e, List.take_length] at dd
    exact hQ h' dd sb
  have body : ∀ i (b : PUnit) (rest : List Nat) (s' : Shared), I (i :: rest) b s' → ∃ e, es[i]? = some e ∧ ∃ h', s' = { s with heap := h' } ∧ h'.get? a = some o ∧ ∃ k, (mixKind prog w).is k e.key = true ∧ e.hash = (mixKind prog w).hash k ∧
      ∃ kvs', h'.DictOf (mixKind prog w) d kvs' ∧ kvs'.length ≤ sizeLine ∧ ∀ h2, h2.DictOf (mixKind prog w) d (stored kvs' k e.val) → Heap.SameBut d h' h2 → h2.get? a = some o ∧ I rest ⟨⟩ { s with heap := h2 } := by
    rintro i b rest s' ⟨j, h', hr, hj, rfl, dd, sb⟩
    have hlt : j < es.size := by
      rcases Nat.lt_or_ge j es.size with z | z
      · exact z
      · rw [show es.size - j = 0 by omega, List.range'_zero] at hr
        cases hr
    rw [show es.size - j = (es.size - (j + 1)) + 1 by omega, List.range'_succ] at hr
    obtain ⟨rfl, rfl⟩ := List.cons.inj hr
    have he : es[i]? = some es[i] := Array.getElem?_eq_getElem hlt
    obtain ⟨kv, hkv, hki, hval⟩ := Pairs.ix hp (i := i) (e := es[i]) (by simpa using he)
    obtain ⟨k', hk', hh⟩ := hk es[i] (Array.getElem_mem hlt)
    have ek : kv.1 = k' := (mixKind prog w).inj _ _ _ hki hk'
    have hl2 : (merged kvs (vs.take i)).length ≤ sizeLine := by
      have := merged_length_le kvs (vs.take i)
      rw [List.length_take] at this
      omega
    refine ⟨es[i], he, h', rfl, (sb.2 a hne).trans ho, k', hk', hh, _, dd, hl2, fun h2 dd2 sb2 => ⟨(sb2.2 a hne).trans ((sb.2 a hne).trans ho), i + 1, h2, rfl, hlt, rfl, ?_, sb.trans sb2⟩⟩
    rw [merged_take_succ kvs vs i kv hkv, ek, ← hval]
    exact dd2
  have go : ∀ f : Nat → PUnit → Sem (ForInStep PUnit), (∀ i b s' e h' k kvs', es[i]? = some e → s' = { s with heap := h' } → h'.get? a = some o → (mixKind prog w).is k e.key = true → e.hash = (mixKind prog w).hash k → h'.DictOf (mixKind prog w) d kvs' → kvs'.length ≤ sizeLine →
      ∀ P : Shared → Prop, (∀ h2, h2.DictOf (mixKind prog w) d (stored kvs' k e.val) → Heap.SameBut d h' h2 → h2.get? a = some o ∧ P { s with heap := h2 }) → wpAny (model prog w) A (f i b) (fun r s2 => match r with | .yield b' => P s2 | .done b' => False) E s') →
      wpAny (model prog w) A (forIn (List.range es.size) PUnit.unit f) (fun _ s' => Q () s') E s := by
    intro f hf
    refine wpAny_forIn_list f I (fun _ s' => Q () s') (fun i rest b s' hI => ?_) fin _ _ I0
    obtain ⟨e, he, h', rfl, ha', k, h1, h2, kvs', dd, hl, nx⟩ := body i b rest s' hI
    refine wpAny_mono (hf i b _ e h' k kvs' he rfl ha' h1 h2 dd hl (fun s2 => I rest ⟨⟩ s2) nx) (fun r s2 hr => ?_) fun _ _ z => z
    cases r with
    | yield b' => exact hr
    | done b' => exact hr.elim
  by_cases hem : esd.isEmpty = true
  · rw [if_pos hem]
    refine wpAny_bind (wpAny_dictEntries ho hdat ?_)
    rw [← Array.forIn_toList]
    refine wpAny_bind (wpAny_forIn_list _ (fun rest _ s' => s' = s ∧ ∀ e ∈ rest, e ∈ es.toList) _ ?_ ?_ _ _ ⟨rfl, fun _ h => h⟩)
    · rintro e rest b s' ⟨rfl, hsub⟩
      obtain ⟨k', hk', _⟩ := hk e (by simpa using hsub e (List.mem_cons_self ..))
      have hr : ∀ e' ∈ rest, e' ∈ es.toList := fun e' he' => hsub e' (List.mem_cons_of_mem _ he')
      rcases keyIs_shape hk' with ⟨i, t, _, hv⟩ | ⟨x, t, _, hv⟩
      · rw [hv]
        exact wpAny_pure ⟨rfl, hr⟩
      · rw [hv]
        exact wpAny_pure ⟨rfl, hr⟩
    · rintro b s' ⟨rfl, _⟩
      refine wpAny_bind (wpAny_dictEntries ho hdat ?_)
      refine wpAny_bind (wpAny_dictEpoch ho hdat ?_)
      refine wpAny_bind (thn (go _ ?_) fun _ s' h => wpAny_pure h)
      intro i b s' e h' k kvs' he hs ha' hk1 hk2 dd hl P nx
      subst hs
      refine wpAny_bind (wpAny_dictEntries ha' hdat ?_)
      rw [he]
      dsimp only
      refine wpAny_bind (wpAny_holding ?_)
      rw [if_neg Bool.false_ne_true, hk2]
      refine dictPut_pairs hk1 dd (fun h2 dd2 sb2 => ?_) hl
      obtain ⟨ha2, hp2⟩ := nx h2 dd2 sb2
      refine wpAny_bind (wpAny_dictEpoch ha2 hdat ?_)
      rw [if_neg (by simp)]
      exact wpAny_pure hp2
  · rw [if_neg hem]
    refine wpAny_bind (wpAny_dictEntries ho hdat ?_)
    refine wpAny_bind (wpAny_dictEpoch ho hdat ?_)
    refine wpAny_bind (thn (go _ ?_) fun _ s' h => wpAny_pure h)
    intro i b s' e h' k kvs' he hs ha' hk1 hk2 dd hl P nx
    subst hs
    refine wpAny_bind (wpAny_dictEntries ha' hdat ?_)
    rw [he]
    dsimp only
    refine wpAny_bind (wpAny_holding ?_)
    rw [if_neg Bool.false_ne_true, hk2]
    refine dictPut_pairs hk1 dd (fun h2 dd2 sb2 => ?_) hl
    obtain ⟨ha2, hp2⟩ := nx h2 dd2 sb2
    refine wpAny_bind (wpAny_dictEpoch ha2 hdat ?_)
    rw [if_neg (by simp)]
    exact wpAny_pure hp2
end
/-- {**a, **b}, both dicts by ints and texts -/
def tMerge2 (ta tb : TE) : TE := fun σ H Q => ∀ D, H D = none → ta σ (upd H D (.dK [])) fun x H1 => ∃ a ka, x = .ref a ∧ Rd H1 a (.dK ka) ∧ a ≠ D ∧ H1 D = some (.dK []) ∧ ka.length ≤ 100000 ∧
  tb σ (upd H1 D (.dK (mergeK [] ka))) fun y H2 => ∃ b kb, y = .ref b ∧ Rd H2 b (.dK kb) ∧ b ≠ D ∧ H2 D = some (.dK (mergeK [] ka)) ∧ kb.length ≤ 100000 ∧ Q (.ref D) (upd H2 D (.dK (mergeK (mergeK [] ka) kb)))
section
variable {X : Cx} {ea eb : Expr} {pos : Pos} {ta tb : TE}
theorem merge_step {pins : List (Addr × Obj)} {s : Shared} {σ : L2.St} {H : Hp} {D a : Addr} {kd ka : List (Key × V)} {E : Value → Shared → Prop} {Q : Unit → Shared → Prop} (I : Inv X pins σ H s) (hD : H D = some (.dK kd)) (ha : Rd H a (.dK ka)) (hne : a ≠ D) (hl : kd.length + ka.length ≤ sizeLine)
    (q : ∀ s', Inv X pins σ (upd H D (.dK (mergeK kd ka))) s' → Q () s') : wpAny (model X.prog X.w) X.A (mergeMapping D (.ref a) false) Q E s := by
  obtain ⟨z, hd, vs, rel, dd⟩ := dk_of I.hok hD
  obtain ⟨z2, hd2, vs2, rel2, dd2⟩ := dk_rd I.hok ha
  have l1 : vs.length = kd.length := rel.length.symm
  have l2 : vs2.length = ka.length := rel2.length.symm
  refine merge_pairs dd dd2 hne hd2 (by omega) fun h' dd' sb => q _ ?_
  have he : ∃ q, h'.get? D = some q := let ⟨q, _, _, hq, _⟩ := dd'; ⟨q, hq⟩
  have hl' : (mergeK kd ka).length ≤ sizeLine := Nat.le_trans (length_mergeK ka kd) hl
  exact d_write I (by rw [hD]; exact True.intro) sb he (dk_new hl' hd (KV.merge rel2 rel) dd')
theorem pe_merge2 (ha : PE X ea ta) (hb : PE X eb tb) : PE X (.Dict [none, none] [ea, eb] pos) (tMerge2 ta tb) := by
  refine ⟨fun pins s σ H Q I q => ?_⟩
  rw [arm_eval_Dict]
  refine wpAny_bind (wpAny_standAt ?_)
  have hn := I.hok.fresh (Nat.le_refl s.heap.objs.size)
  have I1 := I.laid (a := s.heap.objs.size) (o := .dK []) (h' := s.heap.push { cls := .type "dict", data := .dict #[] }) (t' := s.toks) (fun _ _ q => Heap.get?_push_of_some _ q) (Nat.le_refl _) (dk_empty s.heap I.big)
  show wpAny _ _ (dictDisplay [(none, _), (none, _)]) _ _ _
  unfold dictDisplay
  simp only [List.forIn_cons, List.forIn_nil]
  rw [if_pos (by rfl)]
  refine wpAny_bind (wpAny_bind (wpAny_bind (wpAny_pure ?_)))
  refine wpAny_bind (wpAny_alloc ?_)
  refine wpAny_bind (wpAny_holding (wpAny_bind (thn (ha.run pins _ σ _ _ I1 (q _ hn)) fun u s1 ⟨x, H1, I2, rx, a, ka, ex, hra, hne, hD1, hl1, q1⟩ => wpAny_bind (wpAny_standAt (wpAny_pure ?_)))))
  subst ex
  cases (show u = Value.ref a from rx)
  refine wpAny_bind (wpAny_onRaise (wpAny_tryCatch (wpAny_onRaise (wpAny_holding (merge_step I2 hD1 hra hne (by rw [List.length_nil, sizeLine_eq]; omega) fun s2 I3 => ?_)))))
  refine wpAny_pure ?_
  dsimp only
  rw [if_pos (by rfl)]
  refine wpAny_bind (wpAny_bind (wpAny_pure ?_))
  refine wpAny_bind (wpAny_pure ?_)
  refine wpAny_bind (wpAny_holding (wpAny_bind (thn (hb.run pins _ σ _ _ I3 q1) fun u s3 ⟨y, H2, I4, ry, b, kb, ey, hrb, hnb, hD2, hl2, q2⟩ => wpAny_bind (wpAny_standAt (wpAny_pure ?_)))))
  subst ey
  cases (show u = Value.ref b from ry)
  have hm := length_mergeK ka []
  rw [List.length_nil] at hm
  refine wpAny_bind (wpAny_onRaise (wpAny_tryCatch (wpAny_onRaise (wpAny_holding (merge_step I4 hD2 hrb hnb (by rw [sizeLine_eq]; omega) fun s4 I5 => ?_)))))
  refine wpAny_pure ?_
  dsimp only
  refine wpAny_pure ?_
  rw [if_pos (by rfl)]
  refine wpAny_bind (wpAny_pure ?_)
  exact wpAny_pure ⟨.ref s.heap.objs.size, _, I5, rfl, q2⟩
end
section
variable {K : PySem.W.Frag} {F H : Hp} {σ : L2.St} {Q : VK} {R : Addr → Hp → Prop} {a b : Addr} {ka kb : List (Key × V)} {i j : Nat}
/-- {**x, **y} of two names -/
theorem z_merge2 (s : Sub F H) (hi : σ[i]? = some (some (.ref a))) (hj : σ[j]? = some (some (.ref b))) (ha : Rd H a (.dK ka)) (hb : Rd H b (.dK kb)) (la : ka.length ≤ 100000) (lb : kb.length ≤ 100000)
    (q : ∀ D F' H', Mv N0 F H F' H' → F' D = none → H D = none → H' D = some (.dK (mergeK (mergeK [] ka) kb)) → Q (.ref D) H') : tMerge2 (tVar i) (tVar j) σ H Q := by
  intro D hD
  have ra : ∀ o, Rd H a o → a ≠ D := fun o r e => by
    rw [← e] at hD
    rcases r with r | ⟨_, r⟩ <;> rw [hD] at r <;> cases r
  have rb : ∀ o, Rd H b o → b ≠ D := fun o r e => by
    rw [← e] at hD
    rcases r with r | ⟨_, r⟩ <;> rw [hD] at r <;> cases r
  have up : ∀ {c : Addr} {o u : HO} {H : Hp}, c ≠ D → Rd H c o → Rd (upd H D u) c o := fun hne r => by
    rcases r with r | ⟨ob, r⟩
    · exact .inl (by rw [upd_ne hne]; exact r)
    · exact .inr ⟨ob, by rw [upd_ne hne]; exact r⟩
  refine ⟨.ref a, hi, a, ka, rfl, up (ra _ ha) ha, ra _ ha, upd_same, la, .ref b, hj, b, kb, rfl, up (rb _ hb) (up (rb _ hb) hb), rb _ hb, upd_same, lb, ?_⟩
  have g1 : Mv N0 F H F (upd H D (.dK [])) := mv_newV s hD
  have fD : F D = none := s.free hD
  have g2 := mv_set (o := .dK (mergeK [] ka)) g1.sub fD
  have g3 := mv_set (o := .dK (mergeK (mergeK [] ka) kb)) g2.sub fD
  exact q D F _ (g3.step (fun x e => .inr (by rw [e]; exact hD)) (g2.step (fun x e => .inr (by rw [e]; exact hD)) g1)) fD hD upd_same
end
/-! ### dict comprehensions over a list, that change nothing else; the keys texts -/
section
variable {K : PySem.W.Frag} {F H : Hp} {σ : L2.St} {Q : VK} {a : Addr} {xs : List V} {g : TG} {tt : TT} {tk tv : TE} {vs : List Nat} {n : Nat} {G : Hp → Prop} {Y : Nat → Hp → V → Hp → Prop} {J : It}
abbrev dcJ (J : It) (g : TG) (tt : TT) (tk tv : TE) (vs : List Nat) : TE := fun σ H Q => tDc (fun _ _ R => R J H) g tt tk tv vs σ H Q
theorem z_dc {wi : TI} (q : wi σ H fun J H1 => dcJ J g tt tk tv vs σ H1 Q) : tDc wi g tt tk tv vs σ H Q := q
theorem z_dL (h : SqL K H a xs) (q : dcJ (Itl K a) g tt tk tv vs σ H Q) : ∃ b, V.ref a = .ref b ∧ (∃ xs, SqL K H b xs) ∧ dcJ (Itl K b) g tt tk tv vs σ H Q := ⟨a, rfl, ⟨xs, h⟩, q⟩
theorem dc_W (s : Sub F H) (w : Walk J n G Y) (Pv : Nat → Hp → List (Key × V) → Prop) (hP : ∀ i F1 F2 acc, (∀ b o, F1 b = some o → F2 b = some o) → Pv i F1 acc → Pv i F2 acc)
    (h0 : Pv 0 F []) (hG : ∀ i F1 H1 acc, i ≤ n → Mv N0 F H F1 H1 → Pv i F1 acc → G H1) (hl : ∀ i F1 acc, Pv i F1 acc → acc.length ≤ i) (hn : n ≤ 1000000)
    (hs : ∀ i x F1 H1 H1' acc (Kk : V → V → Hp → Prop) (Kn : Hp → Prop), i < n → Mv N0 F H F1 H1 → Pv i F1 acc → Y i H1 x H1' → (∀ k v F4 H4, Mv N0 F1 H1 F4 H4 → Pv (i + 1) F4 (putK acc (.inr k) v) → Kk (.str k) v H4) →
      (∀ F3 H3, Mv N0 F1 H1 F3 H3 → Pv (i + 1) F3 acc → Kn H3) → g x (wipe σ vs) H1' fun σ2 H2 => wipe σ2 vs = wipe σ vs ∧ tt σ2 H2 fun b H3 => if b = true then tk σ2 H3 fun y H4 => tv σ2 H4 fun z H5 => Kk y z H5 else Kn H3)
    (hd : ∀ D F1 H1 acc, H D = none → Mv N0 F H F1 H1 → F1 D = none → H1 D = some (.dK acc) → Pv n F1 acc → Q (.ref D) H1) : dcJ J g tt tk tv vs σ H Q := by
  intro D hD
  have gD : Mv N0 F H F (upd H D (.dK [])) := mv_newV s hD
  refine ⟨fun i m H1 => m = n - i ∧ i ≤ n ∧ ∃ F1 acc, Mv N0 F H F1 H1 ∧ F1 D = none ∧ H1 D = some (.dK acc) ∧ Pv i F1 acc, ⟨n, by omega, by omega, F, [], gD, s.free hD, upd_same, h0⟩, ?_⟩
  rintro i m H1 ⟨rfl, hi, F1, acc, g1, f1, h1, p⟩
  have hG1 := hG i F1 H1 acc hi g1 p
  rcases Nat.lt_or_ge i n with hlt | hge
  · refine .inr ⟨w.goes i H1 hlt hG1, fun H' => n - (i + 1) = n - (i + 1) ∧ i + 1 ≤ n ∧ ∃ F1 acc, Mv N0 F H F1 H' ∧ F1 D = none ∧ H' D = some (.dK acc) ∧ Pv (i + 1) F1 acc, fun H' hx => ⟨n - (i + 1), by omega, hx⟩, ?_⟩
    intro x H1' y
    refine hs i x F1 H1 H1' acc _ _ hlt g1 p (w.yields i H1 x H1' hlt hG1 y) (fun k v F4 H4 g4 p4 => ?_) fun F3 H3 g3 p3 => ?_
    · have d4 : H4 D = some (.dK acc) := g4.kp D _ (fun z => z) h1
      have f4 : F4 D = none := (g4.fr D _ (fun z => z) h1).trans f1
      have gm : Mv N0 F H F4 H4 := g4.step (fun a z => .inl z) g1
      have gS : Mv (fun a => a = D) F4 H4 F4 (upd H4 D (.dK (putK acc (.inr k) v))) := mv_set g4.sub f4
      have q := hl i F1 acc p
      exact ⟨acc, .inr k, rfl, d4, by rw [sizeLine_eq]; omega, rfl, by omega, F4, _, gS.step (fun a e => .inr (by rw [e]; exact hD)) gm, f4, upd_same, p4⟩
    · exact ⟨rfl, by omega, F3, acc, g3.step (fun a z => .inl z) g1, (g3.fr D _ (fun z => z) h1).trans f1, g3.kp D _ (fun z => z) h1, p3⟩
  · have e : i = n := by omega
    subst e
    exact .inl ⟨w.stops H1 hG1, hd D F1 H1 acc hD g1 f1 h1 p⟩
end
section
variable {X : Cx}
theorem sw_trueD {ek ev : Expr} {cs : List Comprehension} {sc0 : Scope} {p0 p1 : Pos} {x : Str} {ln : Nat} {en : Env} (h1 : en.scope.kind = .function) (h2 : en.scope.names.lookup x = some .local) (h3 : (p1.line == p0.line) = true)
    (h4 : (sc0.names.any fun (n, k) => n == x && (k == .local || k == .cell)) = false) : swapsWith (.DictComp ek ev cs sc0 p0) (some (.Name x p1)) ln en = pure true := by
  have k1 : en.kindOf x = some .local := h2
  have k2 : en.blockKind = .function := by
    unfold Env.blockKind
    rw [h1]
    rfl
  unfold swapsWith
  simp only [k1, k2, h4, Expr.pos, h3]
  rfl
/-- x = {..: .. for ..} -/
theorem ps_setDc {i : Nat} {x : Str} {p1 : Pos} {ek ev tg it0 : Expr} {fs : List Expr} {sc0 : Scope} {own : List (Str × Nat)} {p0 sp : Pos} {wi : TI} {g : TG} {tt : TT} {tk tv : TE} (hc : X.calm = true) (hN : X.N.Nodup) (hx : X.N[i]? = some x) (hl : X.env.scope.names.lookup x = some .local)
    (hsw : swapsWith (.DictComp ek ev [⟨tg, it0, fs, 0⟩] sc0 p0) (some (.Name x p1)) sp.line X.env = pure true) (hi : PI X tg it0 wi) (ok : BlkOk X.N X.env.scope sc0 own)
    (hg : ∀ (s : Shared) (H : Hp) (C : Addr) (cl : List (Str × Addr)) (fp : List Addr), PG (X.blk s H sc0 (compEnvC sc0 cl C X.env) fp) tg g) (ht : ∀ (s : Shared) (H : Hp) (C : Addr) (cl : List (Str × Addr)) (fp : List Addr), PTs (X.blk s H sc0 (compEnvC sc0 cl C X.env) fp) fs tt)
    (hk : ∀ (s : Shared) (H : Hp) (C : Addr) (cl : List (Str × Addr)) (fp : List Addr), PE (X.blk s H sc0 (compEnvC sc0 cl C X.env) fp) ek tk)
    (he : ∀ (s : Shared) (H : Hp) (C : Addr) (cl : List (Str × Addr)) (fp : List Addr), PE (X.blk s H sc0 (compEnvC sc0 cl C X.env) fp) ev tv) (hs : ∀ x, foldedSetIterable it0 X.env x = pure x := by intro _; rfl) :
    PS X (.Assign [.Name x p1] (.DictComp ek ev [⟨tg, it0, fs, 0⟩] sc0 p0) sp) (tAsg (tDc wi g tt tk tv (own.map (·.2))) (gName i)) := by
  refine ⟨fun pins s σ H D I h => ?_⟩
  rw [exec_Assign_Name_used _ _ _ _ hsw]
  refine wpAny_bind (wpAny_standAt (wpAny_bind ?_))
  show wpAny _ X.A (do let _ ← comprehension (.DictComp ek ev [⟨tg, it0, fs, 0⟩] sc0 p0) sc0 X.env (firstIterPos [⟨tg, it0, fs, 0⟩] p0) newDict false (eval it0 X.env) (some (assign (.Name x p1) X.env))) _ _ s
  have q0 : tDc wi g tt tk tv (own.map (·.2)) σ H (fun z H1 => gName i z σ H1 D.nx) := h
  refine wpAny_bind (thn (dc_core (Qf := fun _ s2 => SP X pins D .next s2) hc hN I hi ok hg ht hk he hs q0 fun L C s2 m H2 I2 q ns fo => ?_) fun _ s2 hq => wpAny_pure (wpAny_pure hq))
  show wpAny _ _ (assign (.Name x p1) X.env (.ref L)) _ _ _
  refine wpAny_assign_Name (store_ok2 (v := V.ref L) I2 hN hx (.inl hl) rfl (fun s3 I3 ⟨a, sb, ha⟩ => ?_) (.inr hl))
  obtain ⟨c0, c1, c2, c3, c4, c5⟩ := fo
  have ne : C ≠ a := by
    rcases ha with z | z
    · rw [z]
      exact c1
    · exact fun e => c4 x a z e.symm
  exact ⟨m, ns.sameBut sb ne, fun h3 sb3 => ⟨_, H2, I3.turned (t' := s3.toks) (fun b o hb e => (sb3.2 b hb).trans e) c0 c1 c3 c4 c5, q⟩⟩
end
/-! ### isinstance with one built-in type -/
section
variable {X : Cx} {e : Expr} {es : List Expr} {ta : TA} {p pos : Pos}
theorem bb_bool : bootBuiltins "bool" = some (.type "bool") := by decide +kernel
theorem bb_str : bootBuiltins "str" = some (.type "str") := by decide +kernel
theorem ub_isinstance (hm : X.mg "isinstance" = none) (h : PA X (e :: es) ta) (hg : Gl X "isinstance" := by rfl) (he : starEach (e :: es) X.env = (false, eval e X.env) :: starEach es X.env := by rfl)
    (hpl : ((backTo pos (starEach es X.env)).any fun x => x.fst) = false := by rfl) : PE X (.Call (.Name "isinstance" p) (e :: es) [] pos) (tCB (rIsi X.K) ta) := pe_callB call_isi hg hm bb_isinstance h (by decide) (by decide) he hpl
end
/-- the built-in type of data -/
def tyD : PyData → String
  | .none => "NoneType"
  | .bool _ => "bool"
  | .int _ => "int"
  | .str _ => "str"
  | .list _ => "list"
  | .tuple _ => "tuple"
  | .dict _ => "dict"
section
variable {K : PySem.W.Frag} {F F' H H' : Hp} {Q : VK} {x : V} {d : PyData} {b : String} {r : Bool}
theorem z_isi {a : String} (ty : TyX K H x (.type a)) (k : kitB a b = some r) (q : Q (.bl r) H) : rIsi K [x, .ty b] H Q := ⟨x, .ty b, .type a, .type b, r, rfl, .ty b, ty, kit_ty k, q⟩
mutual
/-- data in the frozen part: no tables of the written part -/
inductive Df (F : Hp) : V → PyData → Prop
  | non : Df F .non .none
  | bl (b : Bool) : Df F (.bl b) (.bool b)
  | int (i : Int) : Df F (.int i) (.int i)
  | str (x : Str) : Df F (.str x) (.str x)
  | lst {a : Addr} {xs : List V} {ds : List PyData} : F a = some (.lst xs) → DfAll F xs ds → Df F (.ref a) (.list ds)
  | tup {a : Addr} {xs : List V} {ds : List PyData} : F a = some (.tup xs) → DfAll F xs ds → Df F (.ref a) (.tuple ds)
inductive DfAll (F : Hp) : List V → List PyData → Prop
  | nil : DfAll F [] []
  | cons {v : V} {vs : List V} {d : PyData} {ds : List PyData} : Df F v d → DfAll F vs ds → DfAll F (v :: vs) (d :: ds)
end
mutual
theorem Df.mono (e : ∀ b o, F b = some o → F' b = some o) : ∀ {d : PyData} {v : V}, Df F v d → Df F' v d
  | .none, _, h => by cases h; exact .non
  | .bool b, _, h => by cases h; exact .bl b
  | .int i, _, h => by cases h; exact .int i
  | .str x, _, h => by cases h; exact .str x
  | .list ds, _, h => by
    cases h with
    | lst h1 h2 => exact .lst (e _ _ h1) (DfAll.mono e h2)
  | .tuple ds, _, h => by
    cases h with
    | tup h1 h2 => exact .tup (e _ _ h1) (DfAll.mono e h2)
  | .dict _, _, h => by cases h
theorem DfAll.mono (e : ∀ b o, F b = some o → F' b = some o) : ∀ {ds : List PyData} {vs : List V}, DfAll F vs ds → DfAll F' vs ds
  | [], _, h => by cases h; exact .nil
  | d :: ds, _, h => by
    cases h with
    | cons h1 h2 => exact .cons (Df.mono e h1) (DfAll.mono e h2)
end
mutual
theorem Df.dp (s : Sub F H) : ∀ {d : PyData} {v : V}, Df F v d → Dp K H v d
  | .none, _, h => by cases h; exact .non
  | .bool b, _, h => by cases h; exact .bl b
  | .int i, _, h => by cases h; exact .int i
  | .str x, _, h => by cases h; exact .str x
  | .list ds, _, h => by
    cases h with
    | lst h1 h2 => exact .lst (SqL.of (s.l h1)) (DfAll.dp s h2)
  | .tuple ds, _, h => by
    cases h with
    | tup h1 h2 => exact .tup (SqT.of (s.t h1)) (DfAll.dp s h2)
  | .dict _, _, h => by cases h
theorem DfAll.dp (s : Sub F H) : ∀ {ds : List PyData} {vs : List V}, DfAll F vs ds → DpAll K H vs ds
  | [], _, h => by cases h; exact .nil
  | d :: ds, _, h => by
    cases h with
    | cons h1 h2 => exact .cons (Df.dp s h1) (DfAll.dp s h2)
end
theorem Df.ty (s : Sub F H) (h : Df F x d) : TyX K H x (.type (tyD d)) := by
  cases h with
  | non => exact .base .non
  | bl b => exact .base (.bl b)
  | int i => exact .base (.int i)
  | str x => exact .base (.str x)
  | lst h _ => exact .base (.lst (s.l h))
  | tup h _ => exact .base (.tup (s.t h))
theorem DfAll.length {xs : List V} {ds : List PyData} (h : DfAll F xs ds) : xs.length = ds.length := by
  induction xs generalizing ds with
  | nil => cases h; rfl
  | cons x xs ih =>
    cases h with
    | cons _ h2 => rw [List.length_cons, List.length_cons, ih h2]
theorem DfAll.ix {xs : List V} {ds : List PyData} (h : DfAll F xs ds) {i : Nat} {v : V} (e : xs[i]? = some v) : ∃ d, ds[i]? = some d ∧ Df F v d := by
  induction xs generalizing ds i with
  | nil => simp at e
  | cons x xs ih =>
    cases h with
    | cons h1 h2 =>
      cases i with
      | zero =>
        simp at e
        subst e
        exact ⟨_, by simp, h1⟩
      | succ i => simpa using ih h2 (by simpa using e)
theorem DfAll.of {α : Type} {R : V → α → Prop} {f : α → PyData} (hf : ∀ v x, R v x → Df F v (f x)) : ∀ {vs : List V} {xs : List α}, Paired R vs xs → DfAll F vs (xs.map f)
  | _, _, .nil => .nil
  | _, _, .cons h t => .cons (hf _ _ h) (DfAll.of hf t)
theorem depth_ix {ds : List PyData} {i : Nat} {d : PyData} (e : ds[i]? = some d) : d.depth ≤ PyData.depthAll ds := by
  induction ds generalizing i with
  | nil => simp at e
  | cons x xs ih =>
    rw [PyData.depthAll]
    cases i with
    | zero =>
      simp at e
      subst e
      exact Nat.le_max_left _ _
    | succ i => exact Nat.le_trans (ih (by simpa using e)) (Nat.le_max_right _ _)
theorem depthAll_le {ds : List PyData} {n : Nat} (h : ∀ d ∈ ds, d.depth ≤ n) : PyData.depthAll ds ≤ n := by
  induction ds with
  | nil => rw [PyData.depthAll]; exact Nat.zero_le _
  | cons x xs ih =>
    rw [PyData.depthAll]
    exact Nat.max_le.mpr ⟨h x (List.mem_cons_self ..), ih fun d hd => h d (List.mem_cons_of_mem _ hd)⟩
theorem canAll {ds : List PyData} (h : ∀ d ∈ ds, d.canLay0 = true) : PyData.canLayAll0 ds = true := by
  induction ds with
  | nil => rfl
  | cons x xs ih =>
    rw [PyData.canLayAll0, h x (List.mem_cons_self ..), ih fun d hd => h d (List.mem_cons_of_mem _ hd)]
    rfl
end
end U
namespace Cm
open PySem PySem.Spec PySem.Calls L2 U
/-! ### plain laws of tables -/
section
variable {α β : Type} {t u : List (Str × α)} {p q : Str} {c : α}
theorem aget_put : aget (aput t p c) q = if q = p then some c else aget t q := by
  unfold aput
  by_cases h : (t.any fun e => decide (e.1 = p)) = true
  · rw [if_pos h]
    induction t with
    | nil => simp at h
    | cons e t ih =>
      unfold aget at ih ⊢
      rw [List.map_cons, List.find?_cons, List.find?_cons]
      by_cases h1 : e.1 = p
      · rw [if_pos h1]
        by_cases h2 : q = p
        · subst h2
          simp [h1]
        · have h3 : e.1 ≠ q := fun z => h2 (z.symm.trans h1)
          simp only [h3, decide_false, h2, if_false]
          by_cases h4 : (t.any fun e => decide (e.1 = p)) = true
          · rw [ih h4, if_neg h2]
          · have e1 : t.map (fun e => if e.1 = p then (e.1, c) else e) = t := by
              conv => rhs; rw [← List.map_id t]
              refine List.map_congr_left fun x hx => ?_
              rw [if_neg (fun z => h4 (List.any_eq_true.mpr ⟨x, hx, decide_eq_true z⟩))]
              rfl
            rw [e1]
      · rw [if_neg h1]
        have h4 : (t.any fun e => decide (e.1 = p)) = true := by
          rw [List.any_cons] at h
          simpa [h1] using h
        by_cases h2 : e.1 = q
        · have h3 : q ≠ p := fun z => h1 (h2.trans z)
          simp [h2, h3]
        · simp only [h2, decide_false]
          exact ih h4
  · rw [if_neg h]
    unfold aget
    rw [List.find?_append]
    by_cases h2 : q = p
    · subst h2
      have e : t.find? (fun e => decide (e.1 = q)) = none := by
        rw [List.find?_eq_none]
        intro x hx z
        exact h (List.any_eq_true.mpr ⟨x, hx, z⟩)
      rw [e]
      simp
    · have h3 : p ≠ q := fun z => h2 z.symm
      rw [if_neg h2]
      simp [h3]
theorem aput_take (hn : (t.map (·.1)).Nodup) {i : Nat} {x : Str × α} (hx : t[i]? = some x) : aput (t.take i) x.1 x.2 = t.take (i + 1) := by
  have nin : x.1 ∉ (t.take i).map (·.1) := fun m => by
    have z : (t.map (·.1)).take (i + 1) = (t.take i).map (·.1) ++ [x.1] := by
      rw [List.take_succ, List.getElem?_map, hx, List.map_take]
      rfl
    have nd := hn.sublist (List.take_sublist (i + 1) _)
    rw [z] at nd
    exact (List.nodup_append.mp nd).2.2 _ m _ (List.mem_singleton.mpr rfl) rfl
  unfold aput
  rw [if_neg, List.take_succ, hx]
  · rfl
  · intro z
    obtain ⟨e, he, q⟩ := List.any_eq_true.mp z
    exact nin (List.mem_map.mpr ⟨e, he, of_decide_eq_true q⟩)
theorem aget_perm (h : t.Perm u) (hn : (t.map (·.1)).Nodup) : aget t p = aget u p := by
  have hn' : (u.map (·.1)).Nodup := (h.map (·.1)).nodup_iff.mp hn
  cases e : aget t p with
  | none =>
    have z := aget_none.mp e
    symm
    exact aget_none.mpr fun m => z ((h.map (·.1)).mem_iff.mpr m)
  | some c =>
    have m := h.mem_iff.mp (aget_mem e)
    obtain ⟨i, hi⟩ := List.getElem?_of_mem m
    exact (aget_nd hn' hi).symm
/-- the later table's pairs are put into the first -/
def amerge (t u : List (Str × α)) : List (Str × α) := u.foldl (fun acc e => aput acc e.1 e.2) t
theorem amerge_mem {t u : List (Str × α)} : q ∈ (amerge t u).map (·.1) ↔ q ∈ t.map (·.1) ∨ q ∈ u.map (·.1) := by
  induction u generalizing t with
  | nil => simp [amerge]
  | cons e u ih =>
    show q ∈ (amerge (aput t e.1 e.2) u).map (·.1) ↔ _
    rw [ih, aput_keys, List.map_cons, List.mem_cons]
    by_cases h : e.1 ∈ t.map (·.1)
    · rw [if_pos h]
      constructor
      · rintro (z | z)
        · exact .inl z
        · exact .inr (.inr z)
      · rintro (z | z | z)
        · exact .inl z
        · rw [z]
          exact .inl h
        · exact .inr z
    · rw [if_neg h, List.mem_append, List.mem_singleton]
      constructor
      · rintro ((z | z) | z)
        · exact .inl z
        · exact .inr (.inl z)
        · exact .inr (.inr z)
      · rintro (z | z | z)
        · exact .inl (.inl z)
        · exact .inl (.inr z)
        · exact .inr z
theorem amerge_nodup {t u : List (Str × α)} (h : (t.map (·.1)).Nodup) : ((amerge t u).map (·.1)).Nodup := by
  induction u generalizing t with
  | nil => exact h
  | cons e u ih => exact ih (aput_nodup h)
theorem amerge_length {t u : List (Str × α)} : (amerge t u).length ≤ t.length + u.length := by
  induction u generalizing t with
  | nil => exact Nat.le_refl _
  | cons e u ih =>
    have h1 := ih (t := aput t e.1 e.2)
    have h2 := aput_length (t := t) (p := e.1) (c := e.2)
    rw [List.length_cons]
    exact Nat.le_trans h1 (by omega)
end
/-! ### dicts by texts, of values of any kind -/
section
variable {α : Type} {R R' : V → α → Prop} {kvs more : List (Key × V)} {t u : List (Str × α)} {p : Str} {v : V} {c : α}
def TabG (R : V → α → Prop) (kvs : List (Key × V)) (t : List (Str × α)) : Prop := Paired (fun (kv : Key × V) (e : Str × α) => kv.1 = .inr e.1 ∧ R kv.2 e.2) kvs t
theorem TabG.nil : TabG R [] [] := Paired.nil
theorem TabG.mono (h : TabG R kvs t) (e : ∀ v c, R v c → R' v c) : TabG R' kvs t := Paired.mapP h fun _ _ z => ⟨z.1, e _ _ z.2⟩
theorem TabG.get (h : TabG R kvs t) (p : Str) : (aget t p = none ∧ valV kvs (.inr p) = none) ∨ ∃ c v, aget t p = some c ∧ valV kvs (.inr p) = some v ∧ R v c := by
  unfold TabG at h
  induction h with
  | nil => exact .inl ⟨rfl, rfl⟩
  | @cons kv e kvs t r _ ih =>
    obtain ⟨k, v⟩ := kv
    obtain ⟨e1, c⟩ := e
    obtain ⟨r1, r2⟩ := r
    dsimp only at r1 r2
    subst r1
    by_cases z : e1 = p
    · subst z
      exact .inr ⟨c, v, by simp [aget], by rw [valV_pos rfl], r2⟩
    · have z' : ¬ (Sum.inr e1 : Key) = Sum.inr p := fun y => z (Sum.inr.inj y)
      rw [valV_neg z']
      have y : aget ((e1, c) :: t) p = aget t p := by simp [aget, List.find?_cons, z]
      rw [y]
      exact ih
theorem TabG.any (h : TabG R kvs t) (p : Str) : (kvs.any fun kv => decide (kv.1 = .inr p)) = (t.any fun e => decide (e.1 = p)) := by
  unfold TabG at h
  induction h with
  | nil => rfl
  | @cons kv e kvs t r _ ih =>
    rw [List.any_cons, List.any_cons, ih, r.1, key_dec]
theorem TabG.put (h : TabG R kvs t) (hv : R v c) (p : Str) : TabG R (putK kvs (.inr p) v) (aput t p c) := by
  unfold putK aput
  rw [h.any p]
  by_cases z : (t.any fun e => decide (e.1 = p)) = true
  · rw [if_pos z, if_pos z]
    clear z
    unfold TabG at h ⊢
    induction h with
    | nil => exact .nil
    | @cons kv e kvs t r _ ih =>
      rw [List.map_cons, List.map_cons]
      refine .cons ?_ ih
      rw [r.1]
      by_cases y : e.1 = p
      · rw [if_pos (by rw [y]), if_pos y]
        exact ⟨rfl, hv⟩
      · rw [if_neg (fun w => y (Sum.inr.inj w)), if_neg y]
        exact ⟨r.1, r.2⟩
  · rw [if_neg z, if_neg z]
    clear z
    unfold TabG at h ⊢
    induction h with
    | nil => exact .cons ⟨rfl, hv⟩ .nil
    | cons r _ ih => exact .cons r ih
theorem TabG.length (h : TabG R kvs t) : kvs.length = t.length := Paired.length h
theorem TabG.keys (h : TabG R kvs t) : kvs.map (·.1) = (t.map (·.1)).map Sum.inr := by
  unfold TabG at h
  induction h with
  | nil => rfl
  | cons r _ ih =>
    rw [List.map_cons, List.map_cons, List.map_cons, ih, r.1]
theorem TabG.merge (h : TabG R kvs t) (h' : TabG R more u) : TabG R (mergeK kvs more) (amerge t u) := by
  unfold TabG at h'
  induction h' generalizing kvs t with
  | nil => exact h
  | @cons kv e more u r _ ih =>
    obtain ⟨k, v⟩ := kv
    obtain ⟨r1, r2⟩ := r
    dsimp only at r1 r2
    subst r1
    exact ih (h.put r2 e.1)
end
/-! ### ascending texts -/
open PyProof.Rows in
theorem ltc_irrefl (a : List Nat) : ¬ a < a := List.lt_irrefl a
theorem ltc_trans {a b c : List Nat} (h : a < b) (h' : b < c) : a < c := List.lt_trans h h'
theorem ltc_total {a b : List Nat} (h : ¬ a < b) (h' : ¬ b < a) : a = b := List.le_antisymm (List.not_lt.mp h') (List.not_lt.mp h)
theorem str_of_cps {a b : Str} (h : a.cps.toList = b.cps.toList) : a = b := by
  obtain ⟨x⟩ := a
  obtain ⟨y⟩ := b
  simp only at h
  rw [Array.toList_inj.mp h]
/-- ascending: no later one is before an earlier one -/
def Asc (ys : List Str) : Prop := ys.Pairwise fun a b => ¬ b.cps.toList < a.cps.toList
theorem asc_rising : ∀ (x : Str) (r : List Str), PyProof.Rows.risingS x r = true → Asc (x :: r)
  | x, [], _ => List.pairwise_cons.mpr ⟨fun _ h => (List.not_mem_nil h).elim, List.Pairwise.nil⟩
  | x, y :: r, h => by
    have h2 : (!ltCps y.cps.toList x.cps.toList && PyProof.Rows.risingS y r) = true := h
    rw [Bool.and_eq_true, Bool.not_eq_true', PyProof.Rows.ltCps_eq, decide_eq_false_iff_not] at h2
    have ih := asc_rising y r h2.2
    refine List.pairwise_cons.mpr ⟨fun z hz => ?_, ih⟩
    rcases List.mem_cons.mp hz with q | q
    · rw [q]
      exact h2.1
    · intro hlt
      have h3 := List.rel_of_pairwise_cons ih q
      rcases Classical.em (x.cps.toList < y.cps.toList) with w | w
      · exact h3 (ltc_trans hlt w)
      · rw [ltc_total w h2.1] at hlt
        exact h3 hlt
theorem asc_sorted {ys : List Str} (h : PyProof.Rows.sortedS ys = true) : Asc ys := by
  cases ys with
  | nil => exact List.Pairwise.nil
  | cons x r => exact asc_rising x r h
theorem asc_uniq : ∀ {xs ys : List Str}, Asc xs → Asc ys → xs.Nodup → ys.Nodup → (∀ z, z ∈ xs ↔ z ∈ ys) → xs = ys
  | [], [], _, _, _, _, _ => rfl
  | [], y :: ys, _, _, _, _, h => absurd ((h y).mpr (List.mem_cons_self ..)) List.not_mem_nil
  | x :: xs, [], _, _, _, _, h => absurd ((h x).mp (List.mem_cons_self ..)) List.not_mem_nil
  | x :: xs, y :: ys, hx, hy, nx, ny, h => by
    have e : x = y := by
      refine str_of_cps ?_
      rcases List.mem_cons.mp ((h x).mp (List.mem_cons_self ..)) with q | q
      · rw [q]
      rcases List.mem_cons.mp ((h y).mpr (List.mem_cons_self ..)) with w | w
      · rw [w]
      exact ltc_total (List.rel_of_pairwise_cons hy q) (List.rel_of_pairwise_cons hx w)
    subst e
    obtain ⟨nx1, nx2⟩ := List.nodup_cons.mp nx
    obtain ⟨ny1, ny2⟩ := List.nodup_cons.mp ny
    congr 1
    refine asc_uniq (List.Pairwise.of_cons hx) (List.Pairwise.of_cons hy) nx2 ny2 fun z => ?_
    have hz := h z
    rw [List.mem_cons, List.mem_cons] at hz
    constructor
    · intro m
      rcases hz.mp (.inr m) with q | q
      · rw [q] at m
        exact absurd m nx1
      · exact q
    · intro m
      rcases hz.mpr (.inr m) with q | q
      · rw [q] at m
        exact absurd m ny1
      · exact q
end Cm
namespace Cm
open PySem PySem.Spec PySem.Calls L2 U Hd
variable {w : World} {K : PySem.W.Frag} {mg : Str → Option Value} {base : Heap}
/-! ### rows of contents, changes -/
def knd : Cnt → Str
  | none => "directory"
  | some _ => "file"
def intsD (ns : List Int) : PyData := .list (ns.map PyData.int)
def cntD : Cnt → PyData
  | none => .none
  | some ns => intsD ns
def rowD (e : Str × Cnt) : PyData := .tuple [.str e.1, .str (knd e.2), cntD e.2]
def RowV (F : Hp) (v : V) (e : Str × Cnt) : Prop := ∃ r u, v = .ref r ∧ F r = some (.tup [.str e.1, .str (knd e.2), u]) ∧ CntV F u e.2
abbrev Pg := Nat × List Int
def PgV (F : Hp) (v : V) (g : Pg) : Prop := ∃ r a, v = .ref r ∧ F r = some (.tup [.int g.1, .ref a]) ∧ F a = some (.lst (g.2.map V.int))
def pgD (g : Pg) : PyData := .tuple [.int g.1, intsD g.2]
inductive Chg
  | gone (p : Str)
  | dir (p : Str)
  | file (p : Str) (n : Nat) (gs : List Pg)
def ChgV (F : Hp) (v : V) : Chg → Prop
  | .gone p => ∃ r, v = .ref r ∧ F r = some (.tup [.str p, .str "gone"])
  | .dir p => ∃ r, v = .ref r ∧ F r = some (.tup [.str p, .str "directory"])
  | .file p n gs => ∃ r b xs, v = .ref r ∧ F r = some (.tup [.str p, .str "file", .int n, .ref b]) ∧ F b = some (.lst xs) ∧ Paired (PgV F) xs gs
def chgD : Chg → PyData
  | .gone p => .tuple [.str p, .str "gone"]
  | .dir p => .tuple [.str p, .str "directory"]
  | .file p n gs => .tuple [.str p, .str "file", .int n, .list (gs.map pgD)]
section
variable {F F' H : Hp} {v : V} {e : Str × Cnt} {g : Pg} {c : Chg} {ns : List Int}
theorem RowV.mono (h : RowV F v e) (x : ∀ b o, F b = some o → F' b = some o) : RowV F' v e := by
  obtain ⟨r, u, h1, h2, h3⟩ := h
  exact ⟨r, u, h1, x _ _ h2, h3.mono x⟩
theorem PgV.mono (h : PgV F v g) (x : ∀ b o, F b = some o → F' b = some o) : PgV F' v g := by
  obtain ⟨r, a, h1, h2, h3⟩ := h
  exact ⟨r, a, h1, x _ _ h2, x _ _ h3⟩
theorem ChgV.mono (h : ChgV F v c) (x : ∀ b o, F b = some o → F' b = some o) : ChgV F' v c := by
  cases c with
  | gone p =>
    obtain ⟨r, h1, h2⟩ := h
    exact ⟨r, h1, x _ _ h2⟩
  | dir p =>
    obtain ⟨r, h1, h2⟩ := h
    exact ⟨r, h1, x _ _ h2⟩
  | file p n gs =>
    obtain ⟨r, b, xs, h1, h2, h3, h4⟩ := h
    exact ⟨r, b, xs, h1, x _ _ h2, x _ _ h3, Paired.mapP h4 fun _ _ z => z.mono x⟩
theorem ints_df : ∀ (ns : List Int), DfAll F (ns.map V.int) (ns.map PyData.int)
  | [] => .nil
  | n :: r => .cons (.int n) (ints_df r)
theorem intsD_df {a : Addr} (h : F a = some (.lst (ns.map V.int))) : Df F (.ref a) (intsD ns) := .lst h (ints_df ns)
theorem CntV.df {c : Cnt} (h : CntV F v c) : Df F v (cntD c) := by
  cases c with
  | none =>
    cases h
    exact .non
  | some ns =>
    obtain ⟨a, rfl, h2⟩ := h
    exact intsD_df h2
theorem RowV.df (h : RowV F v e) : Df F v (rowD e) := by
  obtain ⟨r, u, rfl, h2, h3⟩ := h
  exact .tup h2 (.cons (.str _) (.cons (.str _) (.cons h3.df .nil)))
theorem PgV.df (h : PgV F v g) : Df F v (pgD g) := by
  obtain ⟨r, a, rfl, h2, h3⟩ := h
  exact .tup h2 (.cons (.int _) (.cons (intsD_df h3) .nil))
theorem ChgV.df (h : ChgV F v c) : Df F v (chgD c) := by
  cases c with
  | gone p =>
    obtain ⟨r, rfl, h2⟩ := h
    exact .tup h2 (.cons (.str _) (.cons (.str _) .nil))
  | dir p =>
    obtain ⟨r, rfl, h2⟩ := h
    exact .tup h2 (.cons (.str _) (.cons (.str _) .nil))
  | file p n gs =>
    obtain ⟨r, b, xs, rfl, h2, h3, h4⟩ := h
    exact .tup h2 (.cons (.str _) (.cons (.str _) (.cons (.int _) (.cons (.lst h3 (DfAll.of (fun _ _ z => PgV.df z) h4)) .nil))))
theorem depthAll_ints : ∀ (ns : List Int), PyData.depthAll (ns.map PyData.int) = 0
  | [] => rfl
  | n :: r => by
    rw [List.map_cons, PyData.depthAll, depthAll_ints r]
    rfl
theorem can_ints (ns : List Int) : PyData.canLayAll0 (ns.map PyData.int) = true := canAll fun d h => by
  obtain ⟨n, _, rfl⟩ := List.mem_map.mp h
  rfl
theorem depth_intsD (ns : List Int) : (intsD ns).depth = 1 := by
  unfold intsD
  rw [PyData.depth, depthAll_ints]
theorem shaped_intsD (ns : List Int) : SeqAt.shaped (intsD ns) = true := by
  unfold SeqAt.shaped
  rw [depth_intsD, show (intsD ns).canLay0 = true from can_ints ns]
  rfl
theorem eqvAll_ints : ∀ (xs ys : List Int), PyData.eqvAll (xs.map PyData.int) (ys.map PyData.int) = decide (xs = ys)
  | [], [] => by simp [PyData.eqvAll]
  | [], y :: ys => by simp [PyData.eqvAll]
  | x :: xs, [] => by simp [PyData.eqvAll]
  | x :: xs, y :: ys => by
    rw [List.map_cons, List.map_cons, PyData.eqvAll, eqvAll_ints xs ys]
    have e : PyData.eqv (.int x) (.int y) = decide (x = y) := by
      rw [PyData.eqv, Bool.beq_eq_decide_eq]
    rw [e, ← Bool.decide_and]
    exact decide_eq_decide.mpr (by rw [List.cons.injEq])
theorem eqv_intsD (xs ys : List Int) : PyData.eqv (intsD xs) (intsD ys) = decide (xs = ys) := by
  unfold intsD
  rw [PyData.eqv, eqvAll_ints]
variable {a b : Addr} {xs ys : List Int} {Q : VK}
theorem z_neInts (h1 : F a = some (.lst (xs.map V.int))) (h2 : F b = some (.lst (ys.map V.int))) (s : Sub F H) (q : Q (.bl (!decide (xs = ys))) H) : rNeU K (.ref a) (.ref b) H Q :=
  z_neD (Df.dp s (intsD_df h1)) (Df.dp s (intsD_df h2)) (shaped_intsD _) (shaped_intsD _) (by rw [eqv_intsD]; exact q)
theorem z_eqInts (h1 : F a = some (.lst (xs.map V.int))) (h2 : F b = some (.lst (ys.map V.int))) (s : Sub F H) (q : Q (.bl (decide (xs = ys))) H) : rEqU K (.ref a) (.ref b) H Q :=
  z_eqD (Df.dp s (intsD_df h1)) (Df.dp s (intsD_df h2)) (shaped_intsD _) (shaped_intsD _) (by rw [eqv_intsD]; exact q)
end
theorem depth_cnt (c : Cnt) : (cntD c).depth ≤ 1 := by
  cases c with
  | none => exact Nat.zero_le _
  | some ns => exact Nat.le_of_eq (depth_intsD ns)
theorem depth_row (e : Str × Cnt) : (rowD e).depth ≤ 2 := by
  unfold rowD
  rw [PyData.depth]
  refine Nat.succ_le_succ (depthAll_le fun d hd => ?_)
  simp only [List.mem_cons, List.not_mem_nil, or_false] at hd
  rcases hd with rfl | rfl | rfl
  · exact Nat.zero_le _
  · exact Nat.zero_le _
  · exact depth_cnt _
theorem depth_pg (g : Pg) : (pgD g).depth ≤ 2 := by
  unfold pgD
  rw [PyData.depth]
  refine Nat.succ_le_succ (depthAll_le fun d hd => ?_)
  simp only [List.mem_cons, List.not_mem_nil, or_false] at hd
  rcases hd with rfl | rfl
  · exact Nat.zero_le _
  · exact Nat.le_of_eq (depth_intsD _)
theorem depth_chg (c : Chg) : (chgD c).depth ≤ 4 := by
  cases c with
  | gone p => exact Nat.le_of_ble_eq_true rfl
  | dir p => exact Nat.le_of_ble_eq_true rfl
  | file p n gs =>
    unfold chgD
    rw [PyData.depth]
    refine Nat.succ_le_succ (depthAll_le fun d hd => ?_)
    simp only [List.mem_cons, List.not_mem_nil, or_false] at hd
    rcases hd with rfl | rfl | rfl | rfl
    · exact Nat.zero_le _
    · exact Nat.zero_le _
    · exact Nat.zero_le _
    · rw [PyData.depth]
      refine Nat.succ_le_succ (depthAll_le fun d hd => ?_)
      obtain ⟨g, _, rfl⟩ := List.mem_map.mp hd
      exact depth_pg g
def ctsD (ct : Tab) : PyData := .list (ct.map rowD)
def chgsD (cs : List Chg) : PyData := .list (cs.map chgD)
theorem depth_cts (ct : Tab) : (ctsD ct).depth ≤ 3 := by
  unfold ctsD
  rw [PyData.depth]
  refine Nat.succ_le_succ (depthAll_le fun d hd => ?_)
  obtain ⟨g, _, rfl⟩ := List.mem_map.mp hd
  exact depth_row g
theorem depth_chgs (cs : List Chg) : (chgsD cs).depth ≤ 5 := by
  unfold chgsD
  rw [PyData.depth]
  refine Nat.succ_le_succ (depthAll_le fun d hd => ?_)
  obtain ⟨g, _, rfl⟩ := List.mem_map.mp hd
  exact depth_chg g
/-! ### what changes are due -/
def basP (os : List Int) (n : Nat) : List Int := (os ++ List.replicate (n - os.length) 0).take n
def pgAt (ns : List Int) (k : Nat) : List Int := (ns.drop (16 * k)).take 16
def pgs (bs ns : List Int) (m : Nat) : List Pg := (List.range m).filterMap fun k => if pgAt ns k = pgAt bs k then none else some (k, pgAt ns k)
def pagesP (os ns : List Int) : List Pg := pgs (basP os ns.length) ns ((ns.length + 15) / 16)
theorem pgs_succ (bs ns : List Int) (m : Nat) : pgs bs ns (m + 1) = pgs bs ns m ++ if pgAt ns m = pgAt bs m then [] else [(m, pgAt ns m)] := by
  unfold pgs
  rw [List.range_succ, List.filterMap_append]
  congr 1
  by_cases h : pgAt ns m = pgAt bs m
  · rw [if_pos h, List.filterMap_cons, if_pos h]
    rfl
  · rw [if_neg h, List.filterMap_cons, if_neg h]
    rfl
theorem pgs_length (bs ns : List Int) (m : Nat) : (pgs bs ns m).length ≤ m := by
  unfold pgs
  exact Nat.le_trans (List.length_filterMap_le _ _) (by rw [List.length_range]; exact Nat.le_refl _)
def fileOf : Option Cnt → List Int
  | some (some ns) => ns
  | _ => []
def entF (p : Str) (o : Option Cnt) (ns : List Int) : Option Chg := if o = some (some ns) then none else some (.file p ns.length (pagesP (fileOf o) ns))
def ent (p : Str) (o n : Option Cnt) : Option Chg :=
  match n with
  | none => some (.gone p)
  | some none => if o = some none then none else some (.dir p)
  | some (some ns) => entF p o ns
def chgs (ys : List Str) (t u : Tab) : List Chg := ys.filterMap fun p => ent p (aget t p) (aget u p)
theorem chgs_take {ys : List Str} {t u : Tab} {i : Nat} {p : Str} (h : ys[i]? = some p) : chgs (ys.take (i + 1)) t u = chgs (ys.take i) t u ++ (ent p (aget t p) (aget u p)).toList := by
  unfold chgs
  rw [List.take_succ, h, List.filterMap_append]
  congr 1
theorem chgs_length {ys : List Str} {t u : Tab} : (chgs ys t u).length ≤ ys.length := List.length_filterMap_le _ _
/-- the paths of two tables, ascending -/
def Both (t u : Tab) (ys : List Str) : Prop := Asc ys ∧ ys.Nodup ∧ (∀ z, z ∈ ys ↔ z ∈ t.map (·.1) ∨ z ∈ u.map (·.1)) ∧ ys.length ≤ t.length + u.length
theorem Both.uniq {t u : Tab} {xs ys : List Str} (h : Both t u xs) (h' : Both t u ys) : xs = ys := asc_uniq h.1 h'.1 h.2.1 h'.2.1 fun z => (h.2.2.1 z).trans (h'.2.2.1 z).symm
/-- a table's rows, ascending -/
def Srt (t ct : Tab) : Prop := Asc (ct.map (·.1)) ∧ ct.Perm t
theorem Srt.nd {t ct : Tab} (h : Srt t ct) (hn : (t.map (·.1)).Nodup) : (ct.map (·.1)).Nodup := (h.2.map (·.1)).nodup_iff.mpr hn
theorem Srt.get {t ct : Tab} (h : Srt t ct) (hn : (t.map (·.1)).Nodup) (p : Str) : aget ct p = aget t p := aget_perm h.2 (h.nd hn)
theorem Srt.has {t ct : Tab} (h : Srt t ct) (p : Str) : p ∈ ct.map (·.1) ↔ p ∈ t.map (·.1) := (h.2.map (·.1)).mem_iff
theorem chgs_congr {ys : List Str} {t u t' u' : Tab} (h1 : ∀ p, aget t' p = aget t p) (h2 : ∀ p, aget u' p = aget u p) : chgs ys t' u' = chgs ys t u := by
  unfold chgs
  simp only [h1, h2]
theorem Both.srt {t u ct cu : Tab} {ys : List Str} (B : Both ct cu ys) (h : Srt t ct) (h' : Srt u cu) : Both t u ys :=
  ⟨B.1, B.2.1, fun z => by rw [B.2.2.1 z, h.has, h'.has], by rw [← h.2.length_eq, ← h'.2.length_eq]; exact B.2.2.2⟩
theorem same_chgs {t u ct cu : Tab} {ys zs : List Str} (B : Both ct cu ys) (B' : Both t u zs) (h : Srt t ct) (h' : Srt u cu) (n : (t.map (·.1)).Nodup) (n' : (u.map (·.1)).Nodup) : chgs ys ct cu = chgs zs t u := by
  rw [(B.srt h h').uniq B', chgs_congr (h.get n) (h'.get n')]
theorem chgs_self {t : Tab} {ys : List Str} (B : Both t t ys) : chgs ys t t = [] := by
  unfold chgs
  rw [List.filterMap_eq_nil_iff]
  intro y hy
  have m : y ∈ t.map (·.1) := by
    rcases (B.2.2.1 y).mp hy with h | h <;> exact h
  cases e : aget t y with
  | none => exact absurd m (aget_none.mp e)
  | some c =>
    cases c with
    | none => rfl
    | some ns =>
      show entF y (some (some ns)) ns = none
      unfold entF
      exact if_pos rfl
end Cm
namespace Cm
open PySem PySem.Spec PySem.Calls L2 U Hd
variable {w : World} {K : PySem.W.Frag} {mg : Str → Option Value} {base : Heap}
theorem sc__law_contents : FnScope ["_law_table_here", "_law_found", "_law_path_here"] ["_law_table_here"] (defScope s__law_contents) := ⟨rfl, rfl, rfl, by decide +kernel, rfl, by decide +kernel, by decide +kernel⟩
theorem bd__law_contents (kV doc pm : Value) (an : Option Addr) (cdv ct : Value) : ∀ us : List Value, us.length = (["_law_table_here"] : List Str).length → bindArgs (PySem.W.fnOf "_law_contents" "_law_contents" (defArgs s__law_contents) (defBody s__law_contents) (defScope s__law_contents) .none kV doc pm an cdv ct) ⟨us, []⟩ = pure ((["_law_table_here"] : List Str).zip us) :=
  fun us hl => match us, hl with | [_], _ => rfl
theorem sc__law_copy : FnScope ["_law_contents_here", "_law_found", "_law_row", "_law_words_here"] ["_law_contents_here"] (defScope s__law_copy) := ⟨rfl, rfl, rfl, by decide +kernel, rfl, by decide +kernel, by decide +kernel⟩
theorem bd__law_copy (kV doc pm : Value) (an : Option Addr) (cdv ct : Value) : ∀ us : List Value, us.length = (["_law_contents_here"] : List Str).length → bindArgs (PySem.W.fnOf "_law_copy" "_law_copy" (defArgs s__law_copy) (defBody s__law_copy) (defScope s__law_copy) .none kV doc pm an cdv ct) ⟨us, []⟩ = pure ((["_law_contents_here"] : List Str).zip us) :=
  fun us hl => match us, hl with | [_], _ => rfl
/-- the rows of t by the order ys -/
def byOrd (t : Tab) (ys : List Str) : Tab := ys.map fun y => (y, (aget t y).getD none)
theorem byOrd_keys (t : Tab) (ys : List Str) : (byOrd t ys).map (·.1) = ys := by
  unfold byOrd
  rw [List.map_map]
  exact List.map_id' ys
theorem byOrd_self {t : Tab} (hn : (t.map (·.1)).Nodup) : byOrd t (t.map (·.1)) = t := by
  unfold byOrd
  rw [List.map_map]
  conv => rhs; rw [← List.map_id t]
  refine List.map_congr_left fun e he => ?_
  obtain ⟨i, hi⟩ := List.getElem?_of_mem he
  show (e.1, (aget t e.1).getD none) = e
  rw [aget_nd hn hi]
  rfl
theorem byOrd_srt {t : Tab} {ys : List Str} (hn : (t.map (·.1)).Nodup) (hp : ys.Perm (t.map (·.1))) (hs : PyProof.Rows.sortedS ys = true) : Srt t (byOrd t ys) := by
  refine ⟨by rw [byOrd_keys]; exact asc_sorted hs, ?_⟩
  have h := hp.map fun y => (y, (aget t y).getD none)
  have e := byOrd_self hn
  unfold byOrd at e ⊢
  rw [e] at h
  exact h
theorem byOrd_take (t : Tab) {ys : List Str} {i : Nat} {y : Str} (h : ys[i]? = some y) : byOrd t (ys.take (i + 1)) = byOrd t (ys.take i) ++ [(y, (aget t y).getD none)] := by
  unfold byOrd
  rw [List.take_succ, h, List.map_append]
  rfl
theorem snocP {α : Type} {R : V → α → Prop} {xs : List V} {as : List α} {v : V} {a : α} (h : Paired R xs as) (r : R v a) : Paired R (xs ++ [v]) (as ++ [a]) := Paired.snoc h r
theorem pair_ix {α : Type} {R : V → α → Prop} {xs : List V} {as : List α} (h : Paired R xs as) {i : Nat} {v : V} (e : xs[i]? = some v) : ∃ a, as[i]? = some a ∧ R v a := by
  induction h generalizing i with
  | nil => simp at e
  | @cons x a xs as r _ ih =>
    cases i with
    | zero =>
      simp at e
      subst e
      exact ⟨a, by simp, r⟩
    | succ i => simpa using ih (by simpa using e)
def spContents : Sp := fun vs H Q _ => ∃ (F : Hp) (t : Addr) (tb : Tab), vs = [.ref t] ∧ Sub F H ∧ TabF F t tb ∧
  ∀ (a : Addr) (xs : List V) (ct : Tab) (F' H' : Hp), Mv N0 F H F' H' → H a = none → F' a = some (.lst xs) → Paired (RowV F') xs ct → Srt tb ct → Q (.ref a) H'
theorem ok_contents (T : Tx w K mg) : FnG Pr w K mg base CX0 1 "_law_contents" ["_law_table_here"] spContents := by
  refine okG (df__law_contents T) sc__law_contents bd__law_contents (fun vs H Q E h => ?_) (fun f cdv A outer s H vs Q E hr h => ?_)
  · obtain ⟨_, _, _, rfl, _⟩ := h
    rfl
  · obtain ⟨F, t, tb, rfl, S, ⟨kvs, ht, hE, hO, hn⟩, k⟩ := h
    refine ⟨_, (pss_cons (ps_set (i := 1) sc__law_contents.nd rfl (by first | exact Or.inl rfl | exact Or.inr rfl) (pe_lst pa_nil)) (pss_cons (ps_for PassesOwn.never rfl (pi_list (U.ub_sortedD (f_sorted T) (pa_cons (pv 0) pa_nil))) (pg_name (i := 2) sc__law_contents.nd rfl (by first | exact Or.inl rfl | exact Or.inr rfl)) (pss_one (ps_if (pt_cmp (pc_isN (pe_dget (hu_of hr) (pv 0) (pv 2) (fun _ _ => rfl)))) (pss_one (ps_expr (pe_bm PySem.F.plainAttrs_list PySem.F.slot_list_append PySem.F.type_list_append mt_append (pv 1) (pa_cons (pe_tup (pa_cons (pv 2) (pa_cons pe_str (pa_cons pe_non pa_nil)))) pa_nil) : PE _ _ (tBM K _ _ _ _)))) (pss_one (ps_expr (pe_bm PySem.F.plainAttrs_list PySem.F.slot_list_append PySem.F.type_list_append mt_append (pv 1) (pa_cons (pe_tup (pa_cons (pv 2) (pa_cons pe_str (pa_cons (pe_dget (hu_of hr) (pv 0) (pv 2) (fun _ _ => rfl)) pa_nil)))) pa_nil) : PE _ _ (tBM K _ _ _ _))))))) (pss_one (ps_ret (pv 1))))), ?_⟩
    walk_at "go"
    walk_at "st"
    refine z_newLV S (by walk_at "len") fun d F1 H1 g1 f1 n1 h1 => ?_
    walk_at "st"
    refine z_sortD (by walk_at "rd") hE.keys (by walk_at "sub") fun ys hp hso l F2 H2 g2 hl => ?_
    have hlen : ys.length ≤ 1000 := by
      rw [hp.length_eq, List.length_map]
      exact hn
    have f2 : F2 d = none := (g2.fr d _ (fun z => z) h1).trans f1
    have h2 : H2 d = some (.lst []) := g2.kp d _ (fun z => z) h1
    have gg : ∀ {F3 H3}, Mv (fun a => a = d) F2 H2 F3 H3 → Mv N0 F H F3 H3 := fun g3 => g3.step (fun a e => .inr (by rw [e]; exact n1)) (g2.step (fun a z => z.elim) g1)
    refine z_fL (SqL.of (by walk_at "ha")) (for_W walk_list (fun i σ H3 => ∃ (F3 : Hp) (o : Option V) (xs : List V), σ = [some (.ref t), some (.ref d), o] ∧ Mv (fun a => a = d) F2 H2 F3 H3 ∧ F3 d = none ∧ H3 d = some (.lst xs) ∧ Paired (RowV F3) xs (byOrd tb (ys.take i)))
      ⟨F2, _, [], rfl, Mv.self g2.sub, f2, h2, .nil⟩ (fun i σ H3 _ ⟨F3, _, _, _, g3, _⟩ => SqL.of (g3.sub.l (g3.ext _ _ hl))) ?_ ?_)
    · rintro i x σ H3 H3' hi ⟨F3, o, xs, rfl, g3, f3, h3, p3⟩ ⟨rfl, hx⟩
      obtain ⟨y, hy, rfl⟩ := strs_ix hx
      rw [List.length_map] at hi
      have hxl : xs.length ≤ 1000 := by
        have := Paired.length p3
        unfold byOrd at this
        rw [List.length_map, List.length_take] at this
        omega
      have hE3 : TabE F3 kvs tb := hE.mono (gg g3).ext
      have rd3 : Rd _ t (.dK kvs) := g3.sub.d ((gg g3).ext _ _ ht)
      walk_at "st"
      rcases hE3.get y with ⟨q, _⟩ | ⟨c, v, q', q, hv⟩
      · exact absurd (hp.mem_iff.mp (List.mem_of_getElem? hy)) (aget_none.mp q)
      refine z_at rd3 q ?_
      walk_at "st"
      cases c with
      | none =>
        cases hv
        refine z_dec (fun _ => ?_) (fun e => absurd rfl e)
        walk_at "st"
        rename_i r F4 H4 g4 h4 F5 H5 g5 f5 h5
        refine ⟨F5, _, _, rfl, g5.step (fun a z => .inl z) (g4.step (fun a z => z.elim) g3), f5, h5, ?_⟩
        rw [byOrd_take tb hy, q']
        exact snocP (Paired.mapP p3 fun _ _ z => z.mono fun b o h => g5.ext b o (g4.ext b o h)) ⟨r, .non, rfl, g5.ext _ _ h4, rfl⟩
      | some ns =>
        obtain ⟨a, rfl, ha⟩ := hv
        refine z_dec (fun e => by cases e) (fun _ => ?_)
        walk_at "st"
        refine z_at rd3 q ?_
        walk_at "st"
        rename_i r F4 H4 g4 h4 F5 H5 g5 f5 h5
        refine ⟨F5, _, _, rfl, g5.step (fun a z => .inl z) (g4.step (fun a z => z.elim) g3), f5, h5, ?_⟩
        rw [byOrd_take tb hy, q']
        exact snocP (Paired.mapP p3 fun _ _ z => z.mono fun b o h => g5.ext b o (g4.ext b o h)) ⟨r, .ref a, rfl, g5.ext _ _ h4, ⟨a, rfl, g5.ext _ _ (g4.ext _ _ ha)⟩⟩
    · rintro σ H3 ⟨F3, o, xs, rfl, g3, f3, h3, p3⟩
      walk_at "st"
      obtain ⟨F4, g4, h4⟩ := freeze g3.sub f3 h3
      rw [List.length_map, List.take_length] at p3
      exact k d xs _ F4 H3 (gg (g4.step (fun a z => .inl z) g3)) n1 h4 (Paired.mapP p3 fun _ _ z => z.mono g4.ext) (byOrd_srt hO.nd hp hso)
def spCopy : Sp := fun vs H Q _ => ∃ (F : Hp) (a : Addr) (xs : List V) (ct : Tab), vs = [.ref a] ∧ Sub F H ∧ F a = some (.lst xs) ∧ Paired (RowV F) xs ct ∧ ct.length ≤ 1000 ∧
  ∀ (p : Addr) (zs : List V) (F' H' : Hp), Mv N0 F H F' H' → H p = none → F' p = some (.lst zs) → Paired (RowV F') zs ct → Q (.ref p) H'
theorem ok_copy (T : Tx w K mg) : FnG Pr w K mg base CX0 1 "_law_copy" ["_law_contents_here"] spCopy := by
  refine okG (df__law_copy T) sc__law_copy bd__law_copy (fun vs H Q E h => ?_) (fun f cdv A outer s H vs Q E hr h => ?_)
  · obtain ⟨_, _, _, _, rfl, _⟩ := h
    rfl
  · obtain ⟨F, a, xs, ct, rfl, S, ha, hP, hn, k⟩ := h
    have hlen : xs.length = ct.length := Paired.length hP
    refine ⟨_, (pss_cons (ps_set (i := 1) sc__law_copy.nd rfl (by first | exact Or.inl rfl | exact Or.inr rfl) (pe_lst pa_nil)) (pss_cons (ps_for PassesOwn.never rfl (pi_list (pv 0)) (pg_name (i := 2) sc__law_copy.nd rfl (by first | exact Or.inl rfl | exact Or.inr rfl)) (pss_cons (ps_set (i := 3) sc__law_copy.nd rfl (by first | exact Or.inl rfl | exact Or.inr rfl) (pe_ix (ix_seq : IxR _ (rIx K)) (pv 2) pe_int (fun _ _ => rfl))) (pss_cons (ps_if (pt_cmp (pc_notN (pv 3))) (pss_one (ps_set (i := 3) sc__law_copy.nd rfl (by first | exact Or.inl rfl | exact Or.inr rfl) (ub_list (f_list T) (pa_cons (pv 3) pa_nil) : PE _ _ (tCB (rListU K) _)))) pss_nil) (pss_one (ps_expr (pe_bm PySem.F.plainAttrs_list PySem.F.slot_list_append PySem.F.type_list_append mt_append (pv 1) (pa_cons (pe_tup (pa_cons (pe_ix (ix_seq : IxR _ (rIx K)) (pv 2) pe_int (fun _ _ => rfl)) (pa_cons (pe_ix (ix_seq : IxR _ (rIx K)) (pv 2) pe_int (fun _ _ => rfl)) (pa_cons (pv 3) pa_nil)))) pa_nil) : PE _ _ (tBM K _ _ _ _))))))) (pss_one (ps_ret (pv 1))))), ?_⟩
    walk_at "go"
    walk_at "st"
    refine z_newLV S (by walk_at "len") fun d F1 H1 g1 f1 n1 h1 => ?_
    walk_at "st"
    have gg : ∀ {F3 H3}, Mv (fun a => a = d) F1 H1 F3 H3 → Mv N0 F H F3 H3 := fun g3 => g3.step (fun a e => .inr (by rw [e]; exact n1)) g1
    refine z_fL (SqL.of (by walk_at "ha")) (for_W walk_list (fun i σ H3 => ∃ (F3 : Hp) (o o2 : Option V) (zs : List V), σ = [some (.ref a), some (.ref d), o, o2] ∧ Mv (fun a => a = d) F1 H1 F3 H3 ∧ F3 d = none ∧ H3 d = some (.lst zs) ∧ Paired (RowV F3) zs (ct.take i))
      ⟨F1, _, _, [], rfl, Mv.self g1.sub, f1, h1, .nil⟩ (fun i σ H3 _ ⟨F3, _, _, _, _, g3, _⟩ => SqL.of (g3.sub.l ((gg g3).ext _ _ ha))) ?_ ?_)
    · rintro i x σ H3 H3' hi ⟨F3, o, o2, zs, rfl, g3, f3, h3, p3⟩ ⟨rfl, hx⟩
      have hzl : zs.length ≤ 1000 := by
        have := Paired.length p3
        rw [List.length_take] at this
        omega
      obtain ⟨e, he, r, u, rfl, hr, hu⟩ := pair_ix hP hx
      have hr3 : F3 r = _ := (gg g3).ext _ _ hr
      have hu3 : CntV F3 u e.2 := hu.mono (gg g3).ext
      walk_at "st"
      have tk : ct.take (i + 1) = ct.take i ++ [e] := by
        rw [List.take_succ, he]
        rfl
      cases hc : e.2 with
      | none =>
        rw [hc] at hu3
        cases hu3
        refine z_ndec (fun e => absurd rfl e) (fun _ => ?_)
        walk_at "st"
        rename_i r4 F4 H4 g4 h4 F5 H5 g5 f5 h5
        refine ⟨F5, _, _, _, rfl, g5.step (fun a z => .inl z) (g4.step (fun a z => z.elim) g3), f5, h5, ?_⟩
        rw [tk]
        exact snocP (Paired.mapP p3 fun _ _ z => z.mono fun b o h => g5.ext b o (g4.ext b o h)) ⟨r4, .non, rfl, g5.ext _ _ h4, by rw [hc]; rfl⟩
      | some ns =>
        rw [hc] at hu3
        obtain ⟨b, rfl, hb⟩ := hu3
        refine z_ndec (fun _ => ?_) (fun e => by cases e)
        walk_at "st"
        refine z_listL (SqL.of (by walk_at "ha")) (by walk_at "sub") fun l F4 H4 g4 h4 => ?_
        walk_at "st"
        rename_i r5 F5 H5 g5 h5 F6 H6 g6 f6 h6
        refine ⟨F6, _, _, _, rfl, g6.step (fun a z => .inl z) (g5.step (fun a z => z.elim) (g4.step (fun a z => z.elim) g3)), f6, h6, ?_⟩
        rw [tk]
        exact snocP (Paired.mapP p3 fun _ _ z => z.mono fun b o h => g6.ext b o (g5.ext b o (g4.ext b o h))) ⟨r5, .ref l, rfl, g6.ext _ _ h5, by rw [hc]; exact ⟨l, rfl, g6.ext _ _ (g5.ext _ _ h4)⟩⟩
    · rintro σ H3 ⟨F3, o, o2, zs, rfl, g3, f3, h3, p3⟩
      walk_at "st"
      obtain ⟨F4, g4, h4⟩ := freeze g3.sub f3 h3
      rw [hlen, List.take_length] at p3
      exact k d zs F4 H3 (gg (g4.step (fun a z => .inl z) g3)) n1 h4 (Paired.mapP p3 fun _ _ z => z.mono g4.ext)
end Cm
namespace Cm
open PySem PySem.Spec PySem.Calls L2 U Hd
variable {w : World} {K : PySem.W.Frag} {mg : Str → Option Value} {base : Heap}
theorem sc__law_pages : FnScope ["_law_old", "_law_new", "_law_base", "_law_found", "_law_k", "_law_page"] ["_law_old", "_law_new"] (defScope s__law_pages) := ⟨rfl, rfl, rfl, by decide +kernel, rfl, by decide +kernel, by decide +kernel⟩
theorem bd__law_pages (kV doc pm : Value) (an : Option Addr) (cdv ct : Value) : ∀ us : List Value, us.length = (["_law_old", "_law_new"] : List Str).length → bindArgs (PySem.W.fnOf "_law_pages" "_law_pages" (defArgs s__law_pages) (defBody s__law_pages) (defScope s__law_pages) .none kV doc pm an cdv ct) ⟨us, []⟩ = pure ((["_law_old", "_law_new"] : List Str).zip us) :=
  fun us hl => match us, hl with | [_, _], _ => rfl
theorem sc_base_words : FnScope ["table", "path", "size", "words"] ["table", "path", "size"] (defScope s_base_words) := ⟨rfl, rfl, rfl, by decide +kernel, rfl, by decide +kernel, by decide +kernel⟩
theorem bd_base_words (kV doc pm : Value) (an : Option Addr) (cdv ct : Value) : ∀ us : List Value, us.length = (["table", "path", "size"] : List Str).length → bindArgs (PySem.W.fnOf "base_words" "base_words" (defArgs s_base_words) (defBody s_base_words) (defScope s_base_words) .none kV doc pm an cdv ct) ⟨us, []⟩ = pure ((["table", "path", "size"] : List Str).zip us) :=
  fun us hl => match us, hl with | [_, _, _], _ => rfl
theorem sc_file_change : FnScope ["table", "path", "words", "base", "pages", "k", "page"] ["table", "path", "words"] (defScope s_file_change) := ⟨rfl, rfl, rfl, by decide +kernel, rfl, by decide +kernel, by decide +kernel⟩
theorem bd_file_change (kV doc pm : Value) (an : Option Addr) (cdv ct : Value) : ∀ us : List Value, us.length = (["table", "path", "words"] : List Str).length → bindArgs (PySem.W.fnOf "file_change" "file_change" (defArgs s_file_change) (defBody s_file_change) (defScope s_file_change) .none kV doc pm an cdv ct) ⟨us, []⟩ = pure ((["table", "path", "words"] : List Str).zip us) :=
  fun us hl => match us, hl with | [_, _, _], _ => rfl
theorem cut_page (ns : List Int) (j : Nat) : cutV (ns.map V.int) (some (16 * (0 + (j : Int)))) (some (16 * (0 + (j : Int)) + 16)) = (pgAt ns j).map V.int := by
  rw [cutV_midI _ (by omega) (by omega), ← List.map_drop, ← List.map_take]
  unfold pgAt
  rw [show (16 * (0 + (j : Int))).toNat = 16 * j by omega, show (16 * (0 + (j : Int)) + 16).toNat - 16 * j = 16 by omega]
theorem cut_page2 (ns : List Int) (j : Nat) : cutV (ns.map V.int) (some ((0 + (j : Int)) * 16)) (some ((0 + (j : Int) + 1) * 16)) = (pgAt ns j).map V.int := by
  rw [cutV_midI _ (by omega) (by omega), ← List.map_drop, ← List.map_take]
  unfold pgAt
  rw [show ((0 + (j : Int)) * 16).toNat = 16 * j by omega, show ((0 + (j : Int) + 1) * 16).toNat - 16 * j = 16 by omega]
theorem rep_at (m n : Nat) : (List.replicate ((m : Int) - n).toNat [V.int 0]).flatten = (List.replicate (m - n) (0 : Int)).map V.int := by
  rw [rep_ints, show ((m : Int) - n).toNat = m - n by omega]
theorem bas_at (os : List Int) (n : Nat) : cutV ((os ++ List.replicate (n - os.length) (0 : Int)).map V.int) none (some (n : Int)) = (basP os n).map V.int := by
  rw [cutV_to, ← List.map_take]
  rfl
def spPages : Sp := fun vs H Q _ => ∃ (F : Hp) (a b : Addr) (os ns : List Int), vs = [.ref a, .ref b] ∧ Sub F H ∧ F a = some (.lst (os.map V.int)) ∧ F b = some (.lst (ns.map V.int)) ∧ os.length ≤ 5000 ∧ ns.length ≤ 5000 ∧
  ∀ (p : Addr) (zs : List V) (F' H' : Hp), Mv N0 F H F' H' → F' p = some (.lst zs) → Paired (PgV F') zs (pagesP os ns) → Q (.ref p) H'
theorem ok_pages (T : Tx w K mg) : FnG Pr w K mg base CX0 1 "_law_pages" ["_law_old", "_law_new"] spPages := by
  refine okG (df__law_pages T) sc__law_pages bd__law_pages (fun vs H Q E h => ?_) (fun f cdv A outer s H vs Q E hr h => ?_)
  · obtain ⟨_, _, _, _, _, rfl, _⟩ := h
    rfl
  · obtain ⟨F, a, b, os, ns, rfl, S, ha, hb, lo, ln, k⟩ := h
    refine ⟨_, (pss_cons (ps_set (i := 2) sc__law_pages.nd rfl (by first | exact Or.inl rfl | exact Or.inr rfl) (pe_slice (uSl : SlR _ (rSlU K)) (pe_op (uAdd : OpR _ _ (rAddU K)) (pv 0) (pe_op uMul (pe_lst (pa_cons pe_int pa_nil)) (pe_op op_sub (ub_len (f_len T) (pa_cons (pv 1) pa_nil) : PE _ _ (tCB (rLenU K) _)) (ub_len (f_len T) (pa_cons (pv 0) pa_nil) : PE _ _ (tCB (rLenU K) _))))) po_none (po_some (ub_len (f_len T) (pa_cons (pv 1) pa_nil) : PE _ _ (tCB (rLenU K) _))))) (pss_cons (ps_set (i := 3) sc__law_pages.nd rfl (by first | exact Or.inl rfl | exact Or.inr rfl) (pe_lst pa_nil)) (pss_cons (ps_for PassesOwn.never rfl (pi_range1 (by rfl) (f_range T) (pa_cons (pe_op op_fdiv (pe_op (uAdd : OpR _ _ (rAddU K)) (ub_len (f_len T) (pa_cons (pv 1) pa_nil) : PE _ _ (tCB (rLenU K) _)) pe_int) pe_int) pa_nil)) (pg_name (i := 4) sc__law_pages.nd rfl (by first | exact Or.inl rfl | exact Or.inr rfl)) (pss_cons (ps_set (i := 5) sc__law_pages.nd rfl (by first | exact Or.inl rfl | exact Or.inr rfl) (pe_slice (uSl : SlR _ (rSlU K)) (pv 1) (po_some (pe_op uMul pe_int (pv 4))) (po_some (pe_op (uAdd : OpR _ _ (rAddU K)) (pe_op uMul pe_int (pv 4)) pe_int)))) (pss_one (ps_if (pt_cmpR (uNe hr.units : OpR _ _ (rNeU K)) (pv 5) (pe_slice (uSl : SlR _ (rSlU K)) (pv 2) (po_some (pe_op uMul pe_int (pv 4))) (po_some (pe_op (uAdd : OpR _ _ (rAddU K)) (pe_op uMul pe_int (pv 4)) pe_int))) (nomark _)) (pss_one (ps_expr (pe_bm PySem.F.plainAttrs_list PySem.F.slot_list_append PySem.F.type_list_append mt_append (pv 3) (pa_cons (pe_tup (pa_cons (pv 4) (pa_cons (pv 5) pa_nil))) pa_nil) : PE _ _ (tBM K _ _ _ _)))) pss_nil)))) (pss_one (ps_ret (pv 3)))))), ?_⟩
    walk_at "go"
    walk_at "st"
    rename_i z F1 H1 g1 h1
    rw [List.length_map, List.length_map]
    refine z_rep (by walk_at "ha") (by omega) (by omega) (by rw [List.length_cons, List.length_nil, sizeLine_eq]; omega) (by walk_at "sub") fun y F2 H2 g2 h2 => ?_
    rw [rep_at] at h2
    refine z_addL (by walk_at "ha") (by walk_at "ha") (by rw [List.length_map, List.length_map, List.length_replicate, sizeLine_eq]; omega) (by walk_at "sub") fun x F3 H3 g3 h3 => ?_
    rw [← List.map_append] at h3
    walk_at "st"
    rename_i bs F4 H4 g4 h4
    rw [List.length_map, bas_at] at h4
    refine z_newLV g4.sub (by walk_at "len") fun d F5 H5 g5 f5 n5 h5 => ?_
    have n0 : H d = none := g1.fresh (g2.fresh (g3.fresh (g4.fresh n5)))
    have g05 : Mv N0 F H F5 H5 := by walk_at "mv"
    have hb5 : F5 b = some (.lst (ns.map V.int)) := g05.ext _ _ hb
    have h45 : F5 bs = some (.lst ((basP os ns.length).map V.int)) := g5.ext _ _ h4
    have gg : ∀ {F6 H6}, Mv (fun a => a = d) F5 H5 F6 H6 → Mv N0 F H F6 H6 := fun g3 => g3.step (fun a e => .inr (by rw [e]; exact n0)) g05
    walk_at "st"
    rw [List.length_map]
    refine z_fR1 (by omega) (by omega) (for_W walk_range (fun i σ H6 => ∃ (F6 : Hp) (o o2 : Option V) (zs : List V), σ = [some (.ref a), some (.ref b), some (.ref bs), some (.ref d), o, o2] ∧ Mv (fun a => a = d) F5 H5 F6 H6 ∧ F6 d = none ∧ H6 d = some (.lst zs) ∧ Paired (PgV F6) zs (pgs (basP os ns.length) ns i))
      ⟨F5, _, _, [], rfl, Mv.self g5.sub, f5, h5, .nil⟩ (fun _ _ _ _ _ => trivial) ?_ ?_)
    · rintro j y σ H6 H6' hj ⟨F6, o, o2, zs, rfl, g6, f6, h6, p6⟩ ⟨rfl, rfl⟩
      have hj' : (j : Int) < 1000 := by omega
      have hzl : zs.length ≤ 1000 := by
        have q := Paired.length p6
        have q2 := pgs_length (basP os ns.length) ns j
        omega
      have hb6 : F6 b = some (.lst (ns.map V.int)) := g6.ext _ _ hb5
      have h46 : F6 bs = some (.lst ((basP os ns.length).map V.int)) := g6.ext _ _ h45
      walk_at "st"
      rename_i pa F7 H7 g7 h7 pb F8 H8 g8 h8
      rw [cut_page] at h7 h8
      refine z_neInts (g8.ext _ _ h7) h8 g8.sub ?_
      walk_at "st"
      refine z_ndec (fun e1 => ?_) (fun e1 => ?_)
      · walk_at "st"
        rename_i r9 F9 H9 g9 h9 F10 H10 g10 f10 h10
        refine ⟨F10, _, _, _, rfl, g10.step (fun a z => .inl z) (g9.step (fun a z => z.elim) (g8.step (fun a z => z.elim) (g7.step (fun a z => z.elim) g6))), f10, h10, ?_⟩
        rw [pgs_succ, if_neg e1]
        exact snocP (Paired.mapP p6 fun _ _ z => z.mono fun b o h => g10.ext b o (g9.ext b o (g8.ext b o (g7.ext b o h)))) ⟨r9, pa, rfl, by rw [← Int.zero_add (j : Int)]; exact g10.ext _ _ h9, g10.ext _ _ (g9.ext _ _ (g8.ext _ _ h7))⟩
      · walk_at "st"
        refine ⟨F8, _, _, zs, rfl, g8.step (fun a z => z.elim) (g7.step (fun a z => z.elim) g6), ?_, ?_, ?_⟩
        · exact (g8.fr d _ (fun z => z) (g7.kp d _ (fun z => z) h6)).trans ((g7.fr d _ (fun z => z) h6).trans f6)
        · exact g8.kp d _ (fun z => z) (g7.kp d _ (fun z => z) h6)
        · rw [pgs_succ, if_pos e1, List.append_nil]
          exact Paired.mapP p6 fun _ _ z => z.mono fun b o h => g8.ext b o (g7.ext b o h)
    · rintro σ H6 ⟨F6, o, o2, zs, rfl, g6, f6, h6, p6⟩
      walk_at "st"
      obtain ⟨F7, g7, h7⟩ := freeze g6.sub f6 h6
      rw [show (((ns.length : Int) + 15) / 16).toNat = (ns.length + 15) / 16 by omega] at p6
      exact k d zs F7 H6 (gg (g7.step (fun a z => .inl z) g6)) h7 (Paired.mapP p6 fun _ _ z => z.mono g7.ext)
/-! ### the program -/
def KwV (F : Hp) (v : V) (c : Cnt) : Prop := ∃ r u, v = .ref r ∧ F r = some (.tup [.str (knd c), u]) ∧ CntV F u c
theorem KwV.mono {F F' : Hp} {v : V} {c : Cnt} (h : KwV F v c) (x : ∀ b o, F b = some o → F' b = some o) : KwV F' v c := by
  obtain ⟨r, u, h1, h2, h3⟩ := h
  exact ⟨r, u, h1, x _ _ h2, h3.mono x⟩
/-- a dict of paths with kinds and words -/
def TabK (F H : Hp) (a : Addr) (t : Tab) : Prop := ∃ kvs, Rd H a (.dK kvs) ∧ TabG (KwV F) kvs t
theorem TabK.mv {M : Addr → Prop} {F H F' H' : Hp} {a : Addr} {t : Tab} (h : TabK F H a t) (g : Mv M F H F' H') (n : ¬ M a) : TabK F' H' a t := by
  obtain ⟨kvs, h1, h2⟩ := h
  exact ⟨kvs, rd_keep h1 g n, h2.mono fun _ _ z => z.mono g.ext⟩
theorem knd_file (c : Cnt) : (knd c = "file") ↔ c ≠ none := by
  cases c with
  | none => exact ⟨fun h => absurd h (by decide), fun h => absurd rfl h⟩
  | some ns => exact ⟨fun _ h => (by cases h), fun _ => rfl⟩
def spBase : Sp := fun vs H Q _ => ∃ (F : Hp) (t : Addr) (p : Str) (n : Nat) (tb : Tab), vs = [.ref t, .str p, .int n] ∧ Sub F H ∧ TabK F H t tb ∧ n ≤ 5000 ∧ (fileOf (aget tb p)).length ≤ 5000 ∧
  ∀ (a : Addr) (F' H' : Hp), Mv N0 F H F' H' → F' a = some (.lst ((basP (fileOf (aget tb p)) n).map V.int)) → Q (.ref a) H'
theorem ok_base (T : Tx w K mg) : FnG Pr w K mg base CX0 1 "base_words" ["table", "path", "size"] spBase := by
  refine okG (df_base_words T) sc_base_words bd_base_words (fun vs H Q E h => ?_) (fun f cdv A outer s H vs Q E hr h => ?_)
  · obtain ⟨_, _, _, _, _, rfl, _⟩ := h
    rfl
  · obtain ⟨F, t, p, n, tb, rfl, S, ⟨kvs, ht, hG⟩, hn, hf, k⟩ := h
    refine ⟨_, (pss_cons (ps_set (i := 3) sc_base_words.nd rfl (by first | exact Or.inl rfl | exact Or.inr rfl) (pe_lst pa_nil)) (pss_cons (ps_if (PW.pt (pw_and (pt_cmp (pc_din (hu_of hr) (pv 1) (pv 0))) (pw_and1 (pt_cmpR (uEq hr.units : OpR _ _ (rEqU K)) (pe_ix (ix_seq : IxR _ (rIx K)) (pe_dget (hu_of hr) (pv 0) (pv 1) (fun _ _ => rfl)) pe_int (fun _ _ => rfl)) pe_str (nomark _))))) (pss_one (ps_set (i := 3) sc_base_words.nd rfl (by first | exact Or.inl rfl | exact Or.inr rfl) (ub_list (f_list T) (pa_cons (pe_ix (ix_seq : IxR _ (rIx K)) (pe_dget (hu_of hr) (pv 0) (pv 1) (fun _ _ => rfl)) pe_int (fun _ _ => rfl)) pa_nil) : PE _ _ (tCB (rListU K) _)))) pss_nil) (pss_one (ps_ret (pe_slice (uSl : SlR _ (rSlU K)) (pe_op (uAdd : OpR _ _ (rAddU K)) (pv 3) (pe_op uMul (pe_lst (pa_cons pe_int pa_nil)) (pe_op op_sub (pv 2) (ub_len (f_len T) (pa_cons (pv 3) pa_nil) : PE _ _ (tCB (rLenU K) _))))) po_none (po_some (pv 2))))))), ?_⟩
    walk_at "go"
    walk_at "st"
    refine z_newL S (by walk_at "len") fun e F1 H1 g1 h1 => ?_
    have ht1 : Rd H1 t (.dK kvs) := rd_keep ht g1 fun z => z
    have hG1 : TabG (KwV F1) kvs tb := hG.mono fun _ _ z => z.mono g1.ext
    walk_at "sj"
    refine z_seqJ (fun σ' H2 => ∃ (F2 : Hp) (l : Addr), σ' = [some (.ref t), some (.str p), some (.int n), some (.ref l)] ∧ Mv N0 F H F2 H2 ∧ F2 l = some (.lst ((fileOf (aget tb p)).map V.int))) ?_ (fun N hN => ?_)
    · rintro σ' H2 ⟨F2, l, rfl, g2, h2⟩
      walk_at "st"
      rename_i z F3 H3 g3 h3
      rw [List.length_map]
      refine z_rep (by walk_at "ha") (by omega) (by omega) (by rw [List.length_cons, List.length_nil, sizeLine_eq]; omega) (by walk_at "sub") fun y F4 H4 g4 h4 => ?_
      rw [rep_at] at h4
      refine z_addL (by walk_at "ha") (by walk_at "ha") (by rw [List.length_map, List.length_map, List.length_replicate, sizeLine_eq]; omega) (by walk_at "sub") fun x F5 H5 g5 h5 => ?_
      rw [← List.map_append] at h5
      walk_at "st"
      rename_i bs F6 H6 g6 h6
      rw [bas_at] at h6
      exact k bs F6 H6 (by walk_at "mv") h6
    · walk_at "st"
      rcases hG1.get p with ⟨q', q⟩ | ⟨c, v, q', q, hv⟩
      · rw [q]
        refine z_F ?_
        walk_at "st"
        exact hN _ _ ⟨F1, e, rfl, g1, by rw [q']; exact h1⟩
      rw [q]
      refine z_T ?_
      obtain ⟨r, u, rfl, hr, hu⟩ := hv
      walk_at "st"
      refine z_at ht1 q ?_
      walk_at "st"
      refine z_dec (fun e1 => ?_) (fun e1 => ?_)
      · cases c with
        | none => exact absurd e1 (by decide)
        | some ns =>
          obtain ⟨b, rfl, hb⟩ := hu
          walk_at "st"
          refine z_at ht1 q ?_
          walk_at "st"
          refine z_listL (SqL.of (by walk_at "ha")) (by walk_at "sub") fun l F2 H2 g2 h2 => ?_
          walk_at "st"
          exact hN _ _ ⟨F2, l, rfl, by walk_at "mv", by rw [q']; exact h2⟩
      · walk_at "st"
        refine hN _ _ ⟨F1, e, rfl, g1, ?_⟩
        rw [q']
        cases c with
        | none => exact h1
        | some ns => exact absurd rfl e1
end Cm
namespace Cm
open PySem PySem.Spec PySem.Calls L2 U Hd
variable {w : World} {K : PySem.W.Frag} {mg : Str → Option Value} {base : Heap}
def ChgO (F : Hp) (v : V) : Option Chg → Prop
  | none => v = .non
  | some c => ChgV F v c
def spFCh : Sp := fun vs H Q _ => ∃ (F : Hp) (t b : Addr) (p : Str) (ns : List Int) (tb : Tab), vs = [.ref t, .str p, .ref b] ∧ Sub F H ∧ TabK F H t tb ∧ F b = some (.lst (ns.map V.int)) ∧ ns.length ≤ 5000 ∧ (fileOf (aget tb p)).length ≤ 5000 ∧
  ∀ (v : V) (F' H' : Hp), Mv N0 F H F' H' → ChgO F' v (entF p (aget tb p) ns) → Q v H'
theorem ok_fch (T : Tx w K mg) : FnG Pr w K mg base CX0 2 "file_change" ["table", "path", "words"] spFCh := by
  have G_base_words : FnG Pr w K mg base CX0 1 "base_words" ["table", "path", "size"] spBase := ok_base T
  refine okG (df_file_change T) sc_file_change bd_file_change (fun vs H Q E h => ?_) (fun f cdv A outer s H vs Q E hr h => ?_)
  · obtain ⟨_, _, _, _, _, _, rfl, _⟩ := h
    rfl
  · obtain ⟨F, t, b, p, ns, tb, rfl, S, TK, hb, ln, lo, k⟩ := h
    have TK' := TK
    obtain ⟨kvs, ht, hG⟩ := TK'
    refine ⟨_, (pss_cons (ps_if (PW.pt (pw_and (pt_cmp (pc_din (hu_of hr) (pv 1) (pv 0))) (pw_and (pt_cmpR (uEq hr.units : OpR _ _ (rEqU K)) (pe_ix (ix_seq : IxR _ (rIx K)) (pe_dget (hu_of hr) (pv 0) (pv 1) (fun _ _ => rfl)) pe_int (fun _ _ => rfl)) pe_str (nomark _)) (pw_and1 (pt_cmpR (uEq hr.units : OpR _ _ (rEqU K)) (pe_ix (ix_seq : IxR _ (rIx K)) (pe_dget (hu_of hr) (pv 0) (pv 1) (fun _ _ => rfl)) pe_int (fun _ _ => rfl)) (pv 2) (nomark _)))))) (pss_one (ps_ret pe_non)) pss_nil) (pss_cons (ps_set (i := 3) sc_file_change.nd rfl (by first | exact Or.inl rfl | exact Or.inr rfl) (pe_callG G_base_words (hr.mono (by first | decide | omega)) (by rfl) pass0 (pa_cons (pv 0) (pa_cons (pv 1) (pa_cons (ub_len (f_len T) (pa_cons (pv 2) pa_nil) : PE _ _ (tCB (rLenU K) _)) pa_nil))))) (pss_cons (ps_set (i := 4) sc_file_change.nd rfl (by first | exact Or.inl rfl | exact Or.inr rfl) (pe_lst pa_nil)) (pss_cons (ps_for PassesOwn.never rfl (pi_range1 (by rfl) (f_range T) (pa_cons (pe_op op_fdiv (pe_op op_sub (pe_op (uAdd : OpR _ _ (rAddU K)) (ub_len (f_len T) (pa_cons (pv 2) pa_nil) : PE _ _ (tCB (rLenU K) _)) (pe_gint (c_PAGE T))) pe_int) (pe_gint (c_PAGE T))) pa_nil)) (pg_name (i := 5) sc_file_change.nd rfl (by first | exact Or.inl rfl | exact Or.inr rfl)) (pss_cons (ps_set (i := 6) sc_file_change.nd rfl (by first | exact Or.inl rfl | exact Or.inr rfl) (pe_slice (uSl : SlR _ (rSlU K)) (pv 2) (po_some (pe_op uMul (pv 5) (pe_gint (c_PAGE T)))) (po_some (pe_op uMul (pe_op (uAdd : OpR _ _ (rAddU K)) (pv 5) pe_int) (pe_gint (c_PAGE T)))))) (pss_one (ps_if (pt_cmpR (uNe hr.units : OpR _ _ (rNeU K)) (pv 6) (pe_slice (uSl : SlR _ (rSlU K)) (pv 3) (po_some (pe_op uMul (pv 5) (pe_gint (c_PAGE T)))) (po_some (pe_op uMul (pe_op (uAdd : OpR _ _ (rAddU K)) (pv 5) pe_int) (pe_gint (c_PAGE T))))) (nomark _)) (pss_one (ps_expr (pe_bm PySem.F.plainAttrs_list PySem.F.slot_list_append PySem.F.type_list_append mt_append (pv 4) (pa_cons (pe_tup (pa_cons (pv 5) (pa_cons (pv 6) pa_nil))) pa_nil) : PE _ _ (tBM K _ _ _ _)))) pss_nil)))) (pss_one (ps_ret (pe_tup (pa_cons (pv 1) (pa_cons pe_str (pa_cons (ub_len (f_len T) (pa_cons (pv 2) pa_nil) : PE _ _ (tCB (rLenU K) _)) (pa_cons (pv 4) pa_nil))))))))))), ?_⟩
    walk_at "go"
    walk_at "sj"
    refine z_seqJ (fun σ' H2 => σ' = [some (.ref t), some (.str p), some (.ref b), none, none, none, none] ∧ aget tb p ≠ some (some ns) ∧ H = H2) ?_ (fun N hN => ?_)
    rotate_left
    · walk_at "st"
      rcases hG.get p with ⟨q', q⟩ | ⟨c, v, q', q, hv⟩
      · rw [q]
        refine z_F ?_
        walk_at "st"
        exact hN _ _ ⟨rfl, by rw [q']; exact fun z => (by cases z), rfl⟩
      rw [q]
      refine z_T ?_
      obtain ⟨r, u, rfl, hr', hu⟩ := hv
      walk_at "st"
      refine z_at ht q ?_
      walk_at "st"
      refine z_dec (fun e1 => ?_) (fun e1 => ?_)
      · cases c with
        | none => exact absurd e1 (by decide)
        | some os =>
          obtain ⟨a, rfl, ha⟩ := hu
          walk_at "st"
          refine z_at ht q ?_
          walk_at "st"
          refine z_eqInts ha hb S ?_
          walk_at "st"
          refine z_dec (fun e2 => ?_) (fun e2 => ?_)
          · walk_at "st"
            refine k .non F H (Mv.self S) ?_
            unfold entF
            rw [q', if_pos (by rw [e2])]
            exact rfl
          · walk_at "st"
            exact hN _ _ ⟨rfl, by rw [q']; exact fun z => e2 (Option.some.inj (Option.some.inj z)), rfl⟩
      · walk_at "st"
        refine hN _ _ ⟨rfl, ?_, rfl⟩
        rw [q']
        cases c with
        | none => exact fun z => by cases z
        | some os => exact absurd rfl e1
    rintro σ' H2 ⟨rfl, hne, e0⟩
    subst e0
    walk_at "st"
    rw [List.length_map]
    refine ⟨F, t, p, ns.length, tb, rfl, S, TK, ln, lo, fun bs F4 H4 g4 h4 => ?_⟩
    walk_at "st"
    refine z_newLV g4.sub (by walk_at "len") fun d F5 H5 g5 f5 n5 h5 => ?_
    have n0 : H d = none := g4.fresh n5
    have g05 : Mv N0 F H F5 H5 := by walk_at "mv"
    have hb5 : F5 b = some (.lst (ns.map V.int)) := g05.ext _ _ hb
    have h45 : F5 bs = some (.lst ((basP (fileOf (aget tb p)) ns.length).map V.int)) := g5.ext _ _ h4
    have gg : ∀ {F6 H6}, Mv (fun a => a = d) F5 H5 F6 H6 → Mv N0 F H F6 H6 := fun g3 => g3.step (fun a e => .inr (by rw [e]; exact n0)) g05
    walk_at "st"
    rw [List.length_map]
    refine z_fR1 (by omega) (by omega) (for_W walk_range (fun i σ H6 => ∃ (F6 : Hp) (o o2 : Option V) (zs : List V), σ = [some (.ref t), some (.str p), some (.ref b), some (.ref bs), some (.ref d), o, o2] ∧ Mv (fun a => a = d) F5 H5 F6 H6 ∧ F6 d = none ∧ H6 d = some (.lst zs) ∧ Paired (PgV F6) zs (pgs (basP (fileOf (aget tb p)) ns.length) ns i))
      ⟨F5, _, _, [], rfl, Mv.self g5.sub, f5, h5, .nil⟩ (fun _ _ _ _ _ => trivial) ?_ ?_)
    · rintro j y σ H6 H6' hj ⟨F6, o, o2, zs, rfl, g6, f6, h6, p6⟩ ⟨rfl, rfl⟩
      have hj' : (j : Int) < 1000 := by omega
      have hzl : zs.length ≤ 1000 := by
        have q := Paired.length p6
        have q2 := pgs_length (basP (fileOf (aget tb p)) ns.length) ns j
        omega
      have hb6 : F6 b = some (.lst (ns.map V.int)) := g6.ext _ _ hb5
      have h46 : F6 bs = some (.lst ((basP (fileOf (aget tb p)) ns.length).map V.int)) := g6.ext _ _ h45
      walk_at "st"
      rename_i pa F7 H7 g7 h7 pb F8 H8 g8 h8
      rw [cut_page2] at h7 h8
      refine z_neInts (g8.ext _ _ h7) h8 g8.sub ?_
      walk_at "st"
      refine z_ndec (fun e1 => ?_) (fun e1 => ?_)
      · walk_at "st"
        rename_i r9 F9 H9 g9 h9 F10 H10 g10 f10 h10
        refine ⟨F10, _, _, _, rfl, g10.step (fun a z => .inl z) (g9.step (fun a z => z.elim) (g8.step (fun a z => z.elim) (g7.step (fun a z => z.elim) g6))), f10, h10, ?_⟩
        rw [pgs_succ, if_neg e1]
        exact snocP (Paired.mapP p6 fun _ _ z => z.mono fun b o h => g10.ext b o (g9.ext b o (g8.ext b o (g7.ext b o h)))) ⟨r9, pa, rfl, by rw [← Int.zero_add (j : Int)]; exact g10.ext _ _ h9, g10.ext _ _ (g9.ext _ _ (g8.ext _ _ h7))⟩
      · walk_at "st"
        refine ⟨F8, _, _, zs, rfl, g8.step (fun a z => z.elim) (g7.step (fun a z => z.elim) g6), ?_, ?_, ?_⟩
        · exact (g8.fr d _ (fun z => z) (g7.kp d _ (fun z => z) h6)).trans ((g7.fr d _ (fun z => z) h6).trans f6)
        · exact g8.kp d _ (fun z => z) (g7.kp d _ (fun z => z) h6)
        · rw [pgs_succ, if_pos e1, List.append_nil]
          exact Paired.mapP p6 fun _ _ z => z.mono fun b o h => g8.ext b o (g7.ext b o h)
    · rintro σ H6 ⟨F6, o, o2, zs, rfl, g6, f6, h6, p6⟩
      obtain ⟨F7, g7, h7⟩ := freeze g6.sub f6 h6
      have hb7 : F7 b = some (.lst (ns.map V.int)) := g7.ext _ _ (g6.ext _ _ hb5)
      have s7 : Sub F7 H6 := g7.sub
      have p7 : Paired (PgV F7) zs _ := Paired.mapP p6 fun _ _ z => z.mono g7.ext
      have g57 := gg (g7.step (fun a z => .inl z) g6)
      clear g6 f6 h6 g7
      walk_at "st"
      rename_i r F8 H8 g8 h8
      rw [show (((ns.length : Int) + 16 - 1) / 16).toNat = (ns.length + 15) / 16 by omega] at p7
      refine k (.ref r) F8 H8 (g8.step (fun a z => z.elim) g57) ?_
      · unfold entF
        rw [if_neg hne]
        rw [List.length_map] at h8
        exact ⟨r, d, zs, rfl, h8, g8.ext _ _ h7, Paired.mapP p7 fun _ _ z => z.mono g8.ext⟩
end Cm
namespace Cm
open PySem PySem.Spec PySem.Calls L2 U Hd
variable {w : World} {K : PySem.W.Frag} {mg : Str → Option Value} {base : Heap}
theorem sc_changes : FnScope ["old", "new", "before", "after", "found", "path", "change", "kind", "words"] ["old", "new"] (defScope s_changes) := ⟨rfl, rfl, rfl, by decide +kernel, rfl, by decide +kernel, by decide +kernel⟩
theorem bd_changes (kV doc pm : Value) (an : Option Addr) (cdv ct : Value) : ∀ us : List Value, us.length = (["old", "new"] : List Str).length → bindArgs (PySem.W.fnOf "changes" "changes" (defArgs s_changes) (defBody s_changes) (defScope s_changes) .none kV doc pm an cdv ct) ⟨us, []⟩ = pure ((["old", "new"] : List Str).zip us) :=
  fun us hl => match us, hl with | [_, _], _ => rfl
theorem TabOk.perm {t u : Tab} (h : TabOk t) (p : u.Perm t) : TabOk u := ⟨(p.map (·.1)).nodup_iff.mpr h.nd, fun e he => h.key e (p.mem_iff.mp he), fun e he => h.len e (p.mem_iff.mp he)⟩
theorem TabOk.fileOf {t : Tab} (h : TabOk t) (p : Str) : (fileOf (aget t p)).length ≤ 5000 := by
  cases e : aget t p with
  | none => exact Nat.zero_le _
  | some c =>
    cases c with
    | none => exact Nat.zero_le _
    | some ns => exact h.get e
theorem both_of {t u : Tab} {ys : List Str} (hp : ys.Perm ((amerge (amerge [] t) u).map (·.1))) (hs : PyProof.Rows.sortedS ys = true) : Both t u ys := by
  refine ⟨asc_sorted hs, hp.nodup_iff.mpr (amerge_nodup (amerge_nodup List.nodup_nil)), fun z => ?_, ?_⟩
  rotate_left
  · have q1 := amerge_length (t := amerge [] t) (u := u)
    have q2 := amerge_length (t := []) (u := t)
    rw [hp.length_eq, List.length_map]
    simp only [List.length_nil] at q2
    omega
  rw [hp.mem_iff, amerge_mem, amerge_mem]
  constructor
  · rintro ((h | h) | h)
    · exact (List.not_mem_nil h).elim
    · exact .inl h
    · exact .inr h
  · rintro (h | h)
    · exact .inl (.inr h)
    · exact .inr h
def spChanges : Sp := fun vs H Q _ => ∃ (F : Hp) (a b : Addr) (xs zs : List V) (t u : Tab), vs = [.ref a, .ref b] ∧ Sub F H ∧ F a = some (.lst xs) ∧ F b = some (.lst zs) ∧ Paired (RowV F) xs t ∧ Paired (RowV F) zs u ∧ TabOk t ∧ TabOk u ∧ t.length ≤ 1000 ∧ u.length ≤ 1000 ∧
  ∀ (p : Addr) (ys : List Str) (ws : List V) (F' H' : Hp), Mv N0 F H F' H' → H p = none → F' p = some (.lst ws) → Both t u ys → Paired (ChgV F') ws (chgs ys t u) → Q (.ref p) H'
theorem ok_changes (T : Tx w K mg) : FnG Pr w K mg base CX0 3 "changes" ["old", "new"] spChanges := by
  have G_file_change : FnG Pr w K mg base CX0 2 "file_change" ["table", "path", "words"] spFCh := ok_fch T
  refine okG (df_changes T) sc_changes bd_changes (fun vs H Q E h => ?_) (fun f cdv A outer s H vs Q E hr h => ?_)
  · obtain ⟨_, _, _, _, _, _, _, rfl, _⟩ := h
    rfl
  · obtain ⟨F, a, b, xs, zs, t, u, rfl, S, ha, hb, P1, P2, O1, O2, l1, l2, k⟩ := h
    have x1 : xs.length = t.length := Paired.length P1
    have x2 : zs.length = u.length := Paired.length P2
    refine ⟨_, (pss_cons (ps_setDc (i := 2) (own := [("path", 5), ("kind", 7), ("words", 8)]) rfl sc_changes.nd rfl rfl (sw_trueD rfl rfl rfl (by decide +kernel)) (pi_list (pv 0)) (blkOk_by (N := ["old", "new", "before", "after", "found", "path", "change", "kind", "words"]) (sc := defScope s_changes) (by decide +kernel)) (fun _ _ _ _ _ => (pg_tup rfl (pgs_cons (pg_name (i := 5) sc_changes.nd rfl (by first | exact Or.inl rfl | exact Or.inr rfl)) (pgs_cons (pg_name (i := 7) sc_changes.nd rfl (by first | exact Or.inl rfl | exact Or.inr rfl)) (pgs_cons (pg_name (i := 8) sc_changes.nd rfl (by first | exact Or.inl rfl | exact Or.inr rfl)) pgs_nil))) : PG _ _ (gTup K 3 _))) (fun _ _ _ _ _ => pts_nil) (fun _ _ _ _ _ => (pv 5)) (fun _ _ _ _ _ => (pe_tup (pa_cons (pv 7) (pa_cons (pv 8) pa_nil))))) (pss_cons (ps_setDc (i := 3) (own := [("path", 5), ("kind", 7), ("words", 8)]) rfl sc_changes.nd rfl rfl (sw_trueD rfl rfl rfl (by decide +kernel)) (pi_list (pv 1)) (blkOk_by (N := ["old", "new", "before", "after", "found", "path", "change", "kind", "words"]) (sc := defScope s_changes) (by decide +kernel)) (fun _ _ _ _ _ => (pg_tup rfl (pgs_cons (pg_name (i := 5) sc_changes.nd rfl (by first | exact Or.inl rfl | exact Or.inr rfl)) (pgs_cons (pg_name (i := 7) sc_changes.nd rfl (by first | exact Or.inl rfl | exact Or.inr rfl)) (pgs_cons (pg_name (i := 8) sc_changes.nd rfl (by first | exact Or.inl rfl | exact Or.inr rfl)) pgs_nil))) : PG _ _ (gTup K 3 _))) (fun _ _ _ _ _ => pts_nil) (fun _ _ _ _ _ => (pv 5)) (fun _ _ _ _ _ => (pe_tup (pa_cons (pv 7) (pa_cons (pv 8) pa_nil))))) (pss_cons (ps_set (i := 4) sc_changes.nd rfl (by first | exact Or.inl rfl | exact Or.inr rfl) (pe_lst pa_nil)) (pss_cons (ps_for PassesOwn.never rfl (pi_list (U.ub_sortedD (f_sorted T) (pa_cons (pe_merge2 (pv 2) (pv 3)) pa_nil))) (pg_name (i := 5) sc_changes.nd rfl (by first | exact Or.inl rfl | exact Or.inr rfl)) (pss_cons (ps_set (i := 6) sc_changes.nd rfl (by first | exact Or.inl rfl | exact Or.inr rfl) pe_non) (pss_cons (ps_if (pt_cmp (pc_dnotin (hu_of hr) (pv 5) (pv 3))) (pss_one (ps_set (i := 6) sc_changes.nd rfl (by first | exact Or.inl rfl | exact Or.inr rfl) (pe_tup (pa_cons (pv 5) (pa_cons pe_str pa_nil))))) (pss_one (ps_if (pt_cmpR (uEq hr.units : OpR _ _ (rEqU K)) (pe_ix (ix_seq : IxR _ (rIx K)) (pe_dget (hu_of hr) (pv 3) (pv 5) (fun _ _ => rfl)) pe_int (fun _ _ => rfl)) pe_str (nomark _)) (pss_one (ps_set (i := 6) sc_changes.nd rfl (by first | exact Or.inl rfl | exact Or.inr rfl) (pe_callG G_file_change (hr.mono (by first | decide | omega)) (by rfl) pass0 (pa_cons (pv 2) (pa_cons (pv 5) (pa_cons (pe_ix (ix_seq : IxR _ (rIx K)) (pe_dget (hu_of hr) (pv 3) (pv 5) (fun _ _ => rfl)) pe_int (fun _ _ => rfl)) pa_nil)))))) (pss_one (ps_if (PW.pt (pw_or (pt_cmp (pc_dnotin (hu_of hr) (pv 5) (pv 2))) (pw_or1 (pt_cmpR (uEq hr.units : OpR _ _ (rEqU K)) (pe_ix (ix_seq : IxR _ (rIx K)) (pe_dget (hu_of hr) (pv 2) (pv 5) (fun _ _ => rfl)) pe_int (fun _ _ => rfl)) pe_str (nomark _))))) (pss_one (ps_set (i := 6) sc_changes.nd rfl (by first | exact Or.inl rfl | exact Or.inr rfl) (pe_tup (pa_cons (pv 5) (pa_cons pe_str pa_nil))))) pss_nil))))) (pss_one (ps_if (pt_cmp (pc_notN (pv 6))) (pss_one (ps_expr (pe_bm PySem.F.plainAttrs_list PySem.F.slot_list_append PySem.F.type_list_append mt_append (pv 4) (pa_cons (pv 6) pa_nil) : PE _ _ (tBM K _ _ _ _)))) pss_nil))))) (pss_one (ps_ret (pv 4))))))), ?_⟩
    walk_at "go"
    walk_at "st"
    refine z_dc ?_
    walk_at "st"
    refine z_dL (SqL.of (S.l ha)) (dc_W S walk_list (fun i F1 acc => TabG (KwV F1) acc (t.take i)) (fun i F1 F2 acc e p => p.mono fun _ _ z => z.mono e) TabG.nil (fun i F1 H1 acc _ g1 _ => SqL.of (g1.sub.l (g1.ext _ _ ha))) (fun i F1 acc p => by rw [p.length, List.length_take]; omega) (by omega) ?_ ?_)
    · rintro i x F1 H1 H1' acc Kk Kn hi g1 p ⟨rfl, hx⟩ hK hN
      obtain ⟨e, he, r, v, rfl, hr', hv⟩ := pair_ix P1 hx
      have hr1 : F1 r = _ := g1.ext _ _ hr'
      walk_at "st"
      refine ⟨rfl, ?_⟩
      walk_at "st"
      rename_i q F2 H2 g2 h2
      refine hK e.1 (.ref q) F2 H2 g2 ?_
      rw [← aput_take O1.nd he]
      exact (p.mono fun _ _ z => z.mono g2.ext).put ⟨q, v, rfl, h2, (hv.mono g1.ext).mono g2.ext⟩ e.1
    rintro D F1 H1 k1 hD g1 f1 h1 G1
    rw [x1, List.take_length] at G1
    walk_at "st"
    refine z_dc ?_
    walk_at "st"
    have hb1 : F1 b = _ := g1.ext _ _ hb
    refine z_dL (SqL.of (g1.sub.l hb1)) (dc_W g1.sub walk_list (fun i F2 acc => TabG (KwV F2) acc (u.take i)) (fun i F2 F3 acc e p => p.mono fun _ _ z => z.mono e) TabG.nil (fun i F2 H2 acc _ g2 _ => SqL.of (g2.sub.l (g2.ext _ _ hb1))) (fun i F2 acc p => by rw [p.length, List.length_take]; omega) (by omega) ?_ ?_)
    · rintro i x F2 H2 H2' acc Kk Kn hi g2 p ⟨rfl, hx⟩ hK hN
      obtain ⟨e, he, r, v, rfl, hr', hv⟩ := pair_ix P2 hx
      have hr2 : F2 r = _ := g2.ext _ _ (g1.ext _ _ hr')
      walk_at "st"
      refine ⟨rfl, ?_⟩
      walk_at "st"
      rename_i q F3 H3 g3 h3
      refine hK e.1 (.ref q) F3 H3 g3 ?_
      rw [← aput_take O2.nd he]
      exact (p.mono fun _ _ z => z.mono g3.ext).put ⟨q, v, rfl, h3, ((hv.mono g1.ext).mono g2.ext).mono g3.ext⟩ e.1
    rintro D2 F2 H2 k2 hD2 g2 f2 h2 G2
    rw [x2, List.take_length] at G2
    walk_at "st"
    refine z_newLV g2.sub (by walk_at "len") fun d F3 H3 g3 f3 n3 h3 => ?_
    walk_at "st"
    have D1ne : D ≠ d := fun e => by
      have := g2.kp D _ (fun z => z) h1
      rw [e, n3] at this
      cases this
    have D2ne : D2 ≠ d := fun e => by
      rw [e, n3] at h2
      cases h2
    have hd1 : H3 D = some (.dK k1) := g3.kp D _ (fun z => z) (g2.kp D _ (fun z => z) h1)
    have hd2 : H3 D2 = some (.dK k2) := g3.kp D2 _ (fun z => z) h2
    have G1' : TabG (KwV F3) k1 t := G1.mono fun _ _ z => (z.mono g2.ext).mono g3.ext
    have G2' : TabG (KwV F3) k2 u := G2.mono fun _ _ z => z.mono g3.ext
    refine z_merge2 g3.sub rfl rfl (.inl hd1) (.inl hd2) (by rw [G1'.length]; omega) (by rw [G2'.length]; omega) fun DM F4 H4 g4 f4 n4 h4 => ?_
    walk_at "st"
    have GM := (TabG.merge TabG.nil G1').merge G2'
    refine z_sortD (.inl h4) GM.keys g4.sub fun ys hp hso l F5 H5 g5 hl => ?_
    have B : Both t u ys := both_of hp hso
    have hlen : ys.length ≤ 2000 := by
      have q1 := amerge_length (t := amerge [] t) (u := u)
      have q2 := amerge_length (t := []) (u := t)
      rw [hp.length_eq, List.length_map]
      simp only [List.length_nil] at q2
      omega
    have g35 : Mv N0 F3 H3 F5 H5 := g5.step (fun a z => z.elim) g4
    have n0 : H d = none := g1.fresh (g2.fresh n3)
    have g05 : Mv N0 F H F5 H5 := g35.step (fun a z => z.elim) (g3.step (fun a z => z.elim) (g2.step (fun a z => z.elim) g1))
    have gg : ∀ {F6 H6}, Mv (fun a => a = d) F5 H5 F6 H6 → Mv N0 F H F6 H6 := fun g3 => g3.step (fun a e => .inr (by rw [e]; exact n0)) g05
    have K1 : TabK F5 H5 D t := ⟨k1, .inl (g35.kp D _ (fun z => z) hd1), G1'.mono fun _ _ z => z.mono g35.ext⟩
    have K2 : TabK F5 H5 D2 u := ⟨k2, .inl (g35.kp D2 _ (fun z => z) hd2), G2'.mono fun _ _ z => z.mono g35.ext⟩
    have f5 : F5 d = none := (g35.fr d _ (fun z => z) h3).trans f3
    have h5 : H5 d = some (.lst []) := g35.kp d _ (fun z => z) h3
    refine z_fL (SqL.of (g5.sub.l hl)) (for_W walk_list (fun i σ H6 => ∃ (F6 : Hp) (o o2 : Option V) (ws : List V), σ = [some (.ref a), some (.ref b), some (.ref D), some (.ref D2), some (.ref d), o, o2, none, none] ∧ Mv (fun a => a = d) F5 H5 F6 H6 ∧ F6 d = none ∧ H6 d = some (.lst ws) ∧ Paired (ChgV F6) ws (chgs (ys.take i) t u))
      ⟨F5, _, _, [], rfl, Mv.self g5.sub, f5, h5, .nil⟩ (fun i σ H6 _ ⟨F6, _, _, _, _, g6, _⟩ => SqL.of (g6.sub.l (g6.ext _ _ hl))) ?_ ?_)
    · rintro i x σ H6 H6' hi ⟨F6, o, o2, ws, rfl, g6, f6, h6, p6⟩ ⟨rfl, hx⟩
      obtain ⟨y, hy, rfl⟩ := strs_ix hx
      rw [List.length_map] at hi
      have hwl : ws.length ≤ 2000 := by
        have q := Paired.length p6
        have q2 := chgs_length (ys := ys.take i) (t := t) (u := u)
        rw [List.length_take] at q2
        omega
      have L1 : TabK F6 _ D t := K1.mv g6 D1ne
      have L2 : TabK F6 _ D2 u := K2.mv g6 D2ne
      have L1' := L1
      obtain ⟨kv1, rd1, J1⟩ := L1'
      obtain ⟨kv2, rd2, J2⟩ := L2
      walk_at "sj"
      refine z_seqJ (fun σ' H7 => ∃ (F7 : Hp) (v : V), σ' = [some (.ref a), some (.ref b), some (.ref D), some (.ref D2), some (.ref d), some (.str y), some v, none, none] ∧ Mv N0 F6 H6' F7 H7 ∧ ChgO F7 v (ent y (aget t y) (aget u y))) ?_ (fun N hN => ?_)
      · rintro σ' H7 ⟨F7, v, rfl, g7, hc⟩
        have f7 : F7 d = none := (g7.fr d _ (fun z => z) h6).trans f6
        have h7 : H7 d = some (.lst ws) := g7.kp d _ (fun z => z) h6
        have p7 : Paired (ChgV F7) ws (chgs (ys.take i) t u) := Paired.mapP p6 fun _ _ z => z.mono g7.ext
        have g57 : Mv (fun a => a = d) F5 H5 F7 H7 := g7.step (fun a z => z.elim) g6
        clear g6 f6 h6
        walk_at "st"
        cases he : ent y (aget t y) (aget u y) with
        | none =>
          rw [he] at hc
          cases hc
          refine z_ndec (fun e => absurd rfl e) (fun _ => ?_)
          walk_at "st"
          refine ⟨F7, _, _, ws, rfl, g57, f7, h7, ?_⟩
          rw [chgs_take hy, he]
          exact (List.append_nil _).symm ▸ p7
        | some c =>
          rw [he] at hc
          have hv : v ≠ .non := fun e => by
            subst e
            cases c with
            | gone _ =>
              obtain ⟨_, e, _⟩ := hc
              cases e
            | dir _ =>
              obtain ⟨_, e, _⟩ := hc
              cases e
            | file _ _ _ =>
              obtain ⟨_, _, _, e, _⟩ := hc
              cases e
          refine z_ndec (fun _ => ?_) (fun e => absurd e hv)
          walk_at "st"
          rename_i F8 H8 g8 f8 h8
          refine ⟨F8, _, _, _, rfl, g8.step (fun a z => .inl z) g57, f8, h8, ?_⟩
          rw [chgs_take hy, he]
          exact snocP (Paired.mapP p7 fun _ _ z => z.mono g8.ext) (ChgV.mono hc g8.ext)
      · walk_at "st"
        rcases J2.get y with ⟨q', q⟩ | ⟨c, v, q', q, hv⟩
        · rw [q]
          refine z_T ?_
          walk_at "st"
          rename_i r F7 H7 g7 h7
          refine hN _ _ ⟨F7, _, rfl, g7, ?_⟩
          rw [q']
          exact ⟨r, rfl, h7⟩
        rw [q]
        refine z_F ?_
        obtain ⟨r, z, rfl, hr', hu⟩ := hv
        walk_at "st"
        refine z_at rd2 q ?_
        walk_at "st"
        refine z_dec (fun e1 => ?_) (fun e1 => ?_)
        · cases c with
          | none => exact absurd e1 (by decide)
          | some ns =>
            obtain ⟨b2, rfl, hb2⟩ := hu
            walk_at "st"
            refine z_at rd2 q ?_
            walk_at "st"
            refine ⟨F6, D, b2, y, ns, t, rfl, g6.sub, L1, hb2, O2.get q', O1.fileOf y, fun v F7 H7 g7 hc => ?_⟩
            walk_at "st"
            refine hN _ _ ⟨F7, v, rfl, g7, ?_⟩
            rw [q']
            exact hc
        · cases c with
          | some ns => exact absurd rfl e1
          | none =>
            walk_at "st"
            rcases J1.get y with ⟨q1', q1⟩ | ⟨c1, v1, q1', q1, hv1⟩
            · rw [q1]
              refine z_T ?_
              walk_at "st"
              rename_i r7 F7 H7 g7 h7
              refine hN _ _ ⟨F7, _, rfl, g7, ?_⟩
              rw [q', q1']
              exact ⟨r7, rfl, h7⟩
            rw [q1]
            refine z_F ?_
            obtain ⟨r1, z1, rfl, hr1, hu1⟩ := hv1
            walk_at "st"
            refine z_at rd1 q1 ?_
            walk_at "st"
            refine z_dec (fun e2 => ?_) (fun e2 => ?_)
            · cases c1 with
              | none => exact absurd e2 (by decide)
              | some os =>
                walk_at "st"
                rename_i r7 F7 H7 g7 h7
                refine hN _ _ ⟨F7, _, rfl, g7, ?_⟩
                rw [q', q1']
                exact ⟨r7, rfl, h7⟩
            · cases c1 with
              | some os => exact absurd rfl e2
              | none =>
                walk_at "st"
                refine hN _ _ ⟨F6, .non, rfl, Mv.self g6.sub, ?_⟩
                rw [q', q1']
                exact rfl
    · rintro σ H6 ⟨F6, o, o2, ws, rfl, g6, f6, h6, p6⟩
      walk_at "st"
      obtain ⟨F7, g7, h7⟩ := freeze g6.sub f6 h6
      rw [List.length_map, List.take_length] at p6
      exact k d ys ws F7 H6 (gg (g7.step (fun a z => .inl z) g6)) n0 h7 B (Paired.mapP p6 fun _ _ z => z.mono g7.ext)
end Cm
namespace Cm
open PySem PySem.Spec PySem.Calls L2 U Hd
variable {w : World} {K : PySem.W.Frag} {mg : Str → Option Value} {base : Heap}
theorem sc__law_due : FnScope ["_law_old", "_law_new", "_law_names_here", "_law_path_here", "_law_found"] ["_law_old", "_law_new"] (defScope s__law_due) := ⟨rfl, rfl, rfl, by decide +kernel, rfl, by decide +kernel, by decide +kernel⟩
theorem bd__law_due (kV doc pm : Value) (an : Option Addr) (cdv ct : Value) : ∀ us : List Value, us.length = (["_law_old", "_law_new"] : List Str).length → bindArgs (PySem.W.fnOf "_law_due" "_law_due" (defArgs s__law_due) (defBody s__law_due) (defScope s__law_due) .none kV doc pm an cdv ct) ⟨us, []⟩ = pure ((["_law_old", "_law_new"] : List Str).zip us) :=
  fun us hl => match us, hl with | [_, _], _ => rfl
def uni (t : Tab) : List (Str × Unit) := t.map fun e => (e.1, ())
theorem uni_keys (t : Tab) : (uni t).map (·.1) = t.map (·.1) := by
  unfold uni
  rw [List.map_map]
  rfl
theorem uni_ix {t : Tab} {i : Nat} {x : Str × Cnt} (h : t[i]? = some x) : (uni t)[i]? = some (x.1, ()) := by
  unfold uni
  rw [List.getElem?_map, h]
  rfl
theorem amerge_take {α : Type} (t u : List (Str × α)) {i : Nat} {x : Str × α} (h : u[i]? = some x) : amerge t (u.take (i + 1)) = aput (amerge t (u.take i)) x.1 x.2 := by
  unfold amerge
  rw [List.take_succ, h, List.foldl_append]
  rfl
theorem both_uni {t u : Tab} {ys : List Str} (hp : ys.Perm ((amerge (amerge [] (uni t)) (uni u)).map (·.1))) (hs : PyProof.Rows.sortedS ys = true) : Both t u ys := by
  refine ⟨asc_sorted hs, hp.nodup_iff.mpr (amerge_nodup (amerge_nodup List.nodup_nil)), fun z => ?_, ?_⟩
  rotate_left
  · have q1 := amerge_length (t := amerge [] (uni t)) (u := uni u)
    have q2 := amerge_length (t := []) (u := uni t)
    have q3 : (uni t).length = t.length := by
      unfold uni
      rw [List.length_map]
    have q4 : (uni u).length = u.length := by
      unfold uni
      rw [List.length_map]
    rw [hp.length_eq, List.length_map]
    simp only [List.length_nil] at q2
    omega
  rw [hp.mem_iff, amerge_mem, amerge_mem, uni_keys, uni_keys]
  constructor
  · rintro ((h | h) | h)
    · exact (List.not_mem_nil h).elim
    · exact .inl h
    · exact .inr h
  · rintro (h | h)
    · exact .inl (.inr h)
    · exact .inr h
def isT (v : V) (_ : Unit) : Prop := v = .bl true
def spDue : Sp := fun vs H Q _ => ∃ (F : Hp) (a b : Addr) (t u : Tab), vs = [.ref a, .ref b] ∧ Sub F H ∧ TabU F H a t ∧ TabU F H b u ∧
  ∀ (p : Addr) (ys : List Str) (ws : List V) (F' H' : Hp), Mv N0 F H F' H' → F' p = some (.lst ws) → Both t u ys → Paired (ChgV F') ws (chgs ys t u) → Q (.ref p) H'
theorem ok_due (T : Tx w K mg) : FnG Pr w K mg base CX0 2 "_law_due" ["_law_old", "_law_new"] spDue := by
  have G__law_pages : FnG Pr w K mg base CX0 1 "_law_pages" ["_law_old", "_law_new"] spPages := ok_pages T
  refine okG (df__law_due T) sc__law_due bd__law_due (fun vs H Q E h => ?_) (fun f cdv A outer s H vs Q E hr h => ?_)
  · obtain ⟨_, _, _, _, _, rfl, _⟩ := h
    rfl
  · obtain ⟨F, a, b, t, u, rfl, S, ⟨k1, fa, ha, E1, O1, l1⟩, ⟨k2, fb, hb, E2, O2, l2⟩, k⟩ := h
    refine ⟨_, (pss_cons (ps_set (i := 2) sc__law_due.nd rfl (by first | exact Or.inl rfl | exact Or.inr rfl) pe_dnewK) (pss_cons (ps_lock (ps_for PassesOwn.never rfl (pi_keys (pv 0)) (pg_name (i := 3) sc__law_due.nd rfl (by first | exact Or.inl rfl | exact Or.inr rfl)) (pss_one (ps_dput (hu_of hr) (pv 2) (pv 3) pe_bl rfl)))) (pss_cons (ps_lock (ps_for PassesOwn.never rfl (pi_keys (pv 1)) (pg_name (i := 3) sc__law_due.nd rfl (by first | exact Or.inl rfl | exact Or.inr rfl)) (pss_one (ps_dput (hu_of hr) (pv 2) (pv 3) pe_bl rfl)))) (pss_cons (ps_set (i := 4) sc__law_due.nd rfl (by first | exact Or.inl rfl | exact Or.inr rfl) (pe_lst pa_nil)) (pss_cons (ps_for PassesOwn.never rfl (pi_list (U.ub_sortedD (f_sorted T) (pa_cons (pv 2) pa_nil))) (pg_name (i := 3) sc__law_due.nd rfl (by first | exact Or.inl rfl | exact Or.inr rfl)) (pss_one (ps_if (pt_cmp (pc_dnotin (hu_of hr) (pv 3) (pv 1))) (pss_one (ps_expr (pe_bm PySem.F.plainAttrs_list PySem.F.slot_list_append PySem.F.type_list_append mt_append (pv 4) (pa_cons (pe_tup (pa_cons (pv 3) (pa_cons pe_str pa_nil))) pa_nil) : PE _ _ (tBM K _ _ _ _)))) (pss_one (ps_if (pt_cmp (pc_isN (pe_dget (hu_of hr) (pv 1) (pv 3) (fun _ _ => rfl)))) (pss_one (ps_if (PW.pt (pw_or (pt_cmp (pc_dnotin (hu_of hr) (pv 3) (pv 0))) (pw_or1 (pt_cmp (pc_notN (pe_dget (hu_of hr) (pv 0) (pv 3) (fun _ _ => rfl))))))) (pss_one (ps_expr (pe_bm PySem.F.plainAttrs_list PySem.F.slot_list_append PySem.F.type_list_append mt_append (pv 4) (pa_cons (pe_tup (pa_cons (pv 3) (pa_cons pe_str pa_nil))) pa_nil) : PE _ _ (tBM K _ _ _ _)))) pss_nil)) (pss_one (ps_if (PW.pt (pw_or (pt_cmp (pc_dnotin (hu_of hr) (pv 3) (pv 0))) (pw_or1 (pt_cmp (pc_isN (pe_dget (hu_of hr) (pv 0) (pv 3) (fun _ _ => rfl))))))) (pss_one (ps_expr (pe_bm PySem.F.plainAttrs_list PySem.F.slot_list_append PySem.F.type_list_append mt_append (pv 4) (pa_cons (pe_tup (pa_cons (pv 3) (pa_cons pe_str (pa_cons (ub_len (f_len T) (pa_cons (pe_dget (hu_of hr) (pv 1) (pv 3) (fun _ _ => rfl)) pa_nil) : PE _ _ (tCB (rLenU K) _)) (pa_cons (pe_callG G__law_pages (hr.mono (by first | decide | omega)) (by rfl) pass0 (pa_cons (pe_lst pa_nil) (pa_cons (pe_dget (hu_of hr) (pv 1) (pv 3) (fun _ _ => rfl)) pa_nil))) pa_nil))))) pa_nil) : PE _ _ (tBM K _ _ _ _)))) (pss_one (ps_if (pt_cmpR (uNe hr.units : OpR _ _ (rNeU K)) (pe_dget (hu_of hr) (pv 0) (pv 3) (fun _ _ => rfl)) (pe_dget (hu_of hr) (pv 1) (pv 3) (fun _ _ => rfl)) (nomark _)) (pss_one (ps_expr (pe_bm PySem.F.plainAttrs_list PySem.F.slot_list_append PySem.F.type_list_append mt_append (pv 4) (pa_cons (pe_tup (pa_cons (pv 3) (pa_cons pe_str (pa_cons (ub_len (f_len T) (pa_cons (pe_dget (hu_of hr) (pv 1) (pv 3) (fun _ _ => rfl)) pa_nil) : PE _ _ (tCB (rLenU K) _)) (pa_cons (pe_callG G__law_pages (hr.mono (by first | decide | omega)) (by rfl) pass0 (pa_cons (pe_dget (hu_of hr) (pv 0) (pv 3) (fun _ _ => rfl)) (pa_cons (pe_dget (hu_of hr) (pv 1) (pv 3) (fun _ _ => rfl)) pa_nil))) pa_nil))))) pa_nil) : PE _ _ (tBM K _ _ _ _)))) pss_nil))))))))) (pss_one (ps_ret (pv 4)))))))), ?_⟩
    walk_at "go"
    walk_at "st"
    refine z_dnew fun dn H1 nn => ?_
    obtain ⟨F1, g1, f1, hn0, h1⟩ := nn.vo S
    have ne1 : a ≠ dn := fun e => by
      rw [e, hn0] at ha
      cases ha
    have ne2 : b ≠ dn := fun e => by
      rw [e, hn0] at hb
      cases hb
    walk_at "st"
    refine for_keys (d := a) (kvs := k1) (M := fun x => x = dn) g1.sub rfl (g1.kp a _ (fun z => z) ha) (.inr (g1.ext _ _ fa)) ne1 (fun i σ F2 H2 => ∃ (o : Option V) (kn : List (Key × V)), σ = [some (.ref a), some (.ref b), some (.ref dn), o, none] ∧ F2 dn = none ∧ H2 dn = some (.dK kn) ∧ TabG isT kn (amerge [] ((uni t).take i))) ?_ ?_ ?_
    · intro od
      exact ⟨_, [], rfl, f1, by rw [upd_ne ne1.symm]; exact h1, TabG.nil⟩
    · rintro od i ky v σ F2 H2 N rt' bk' hi g2 l2' ⟨o, kn, rfl, f2, h2, e2⟩ hN
      obtain ⟨x, hx, r1, r2⟩ := E1.ix hi
      dsimp only at r1
      subst r1
      dsimp only [kV]
      have hkn : kn.length ≤ 1000 := by
        have q := amerge_length (t := []) (u := (uni t).take i)
        have q2 : (uni t).length = t.length := by
          unfold uni
          rw [List.length_map]
        rw [List.length_take] at q
        rw [e2.length]
        simp only [List.length_nil] at q
        omega
      walk_at "st"
      rename_i F3 H3 g3 f3 h3
      refine hN _ F3 H3 g3 ⟨_, _, rfl, f3, h3, ?_⟩
      rw [amerge_take [] (uni t) (uni_ix hx)]
      exact e2.put (v := .bl true) rfl x.1
    rintro od σ F2 H2 gu g2 ⟨o, kn, rfl, f2, h2, e2⟩
    generalize hH2 : upd H2 a (.dK k1) = H2' at gu ⊢
    have h2' : H2' dn = some (.dK kn) := by
      rw [← hH2, upd_ne ne1.symm]
      exact h2
    clear g2 hH2 h2
    rw [E1.length, List.take_of_length_le (by unfold uni; rw [List.length_map]; exact Nat.le_refl _)] at e2
    walk_at "st"
    have hb2 : H2' b = some (.dK k2) := gu.kp b _ ne2 (g1.kp b _ (fun z => z) hb)
    refine for_keys (d := b) (kvs := k2) (M := fun x => x = dn) gu.sub rfl hb2 (.inr (gu.ext _ _ (g1.ext _ _ fb))) ne2 (fun i σ F3 H3 => ∃ (o : Option V) (kn : List (Key × V)), σ = [some (.ref a), some (.ref b), some (.ref dn), o, none] ∧ F3 dn = none ∧ H3 dn = some (.dK kn) ∧ TabG isT kn (amerge (amerge [] (uni t)) ((uni u).take i))) ?_ ?_ ?_
    · intro od
      exact ⟨_, kn, rfl, f2, by rw [upd_ne ne2.symm]; exact h2', e2⟩
    · rintro od i ky v σ F3 H3 N rt' bk' hi g3 l3 ⟨o, kn, rfl, f3, h3, e3⟩ hN
      obtain ⟨x, hx, r1, r2⟩ := E2.ix hi
      dsimp only at r1
      subst r1
      dsimp only [kV]
      have hkn : kn.length ≤ 1000 := by
        have q := amerge_length (t := amerge [] (uni t)) (u := (uni u).take i)
        have q1 := amerge_length (t := []) (u := uni t)
        have q2 : (uni t).length = t.length := by
          unfold uni
          rw [List.length_map]
        have q3 : (uni u).length = u.length := by
          unfold uni
          rw [List.length_map]
        rw [List.length_take] at q
        rw [e3.length]
        simp only [List.length_nil] at q1
        omega
      walk_at "st"
      rename_i F4 H4 g4 f4 h4
      refine hN _ F4 H4 g4 ⟨_, _, rfl, f4, h4, ?_⟩
      rw [amerge_take _ (uni u) (uni_ix hx)]
      exact e3.put (v := .bl true) rfl x.1
    rintro od σ F3 H3 gv g3 ⟨o, kn, rfl, f3, h3, e3⟩
    generalize hH3 : upd H3 b (.dK k2) = H3' at gv ⊢
    have h3' : H3' dn = some (.dK kn) := by
      rw [← hH3, upd_ne ne2.symm]
      exact h3
    clear g3 hH3 h3
    rw [E2.length, List.take_of_length_le (by unfold uni; rw [List.length_map]; exact Nat.le_refl _)] at e3
    have g03 : Mv N0 F H F3 H3' := gv.step (fun a e => .inr (by rw [e]; exact hn0)) (gu.step (fun a e => .inr (by rw [e]; exact hn0)) g1)
    walk_at "st"
    refine z_newLV gv.sub (by walk_at "len") fun d F4 H4 g4 f4 n4 h4 => ?_
    have n0 : H d = none := g03.fresh n4
    have nd : dn ≠ d := fun e => by
      rw [e, n4] at h3'
      cases h3'
    have h4n : H4 dn = some (.dK kn) := g4.kp dn _ (fun z => z) h3'
    have g04 : Mv N0 F H F4 H4 := g4.step (fun a z => z.elim) g03
    walk_at "st"
    refine z_sortD (.inl h4n) e3.keys g4.sub fun ys hp hso l F5 H5 g5 hl => ?_
    have B : Both t u ys := both_uni hp hso
    have hlen : ys.length ≤ 1000 := by
      have q1 := amerge_length (t := amerge [] (uni t)) (u := uni u)
      have q2 := amerge_length (t := []) (u := uni t)
      have q3 : (uni t).length = t.length := by
        unfold uni
        rw [List.length_map]
      have q4 : (uni u).length = u.length := by
        unfold uni
        rw [List.length_map]
      rw [hp.length_eq, List.length_map]
      simp only [List.length_nil] at q2
      omega
    have g05 : Mv N0 F H F5 H5 := g5.step (fun a z => z.elim) g04
    have gg : ∀ {F6 H6}, Mv (fun a => a = d) F5 H5 F6 H6 → Mv N0 F H F6 H6 := fun g3 => g3.step (fun a e => .inr (by rw [e]; exact n0)) g05
    have f5 : F5 d = none := (g5.fr d _ (fun z => z) h4).trans f4
    have h5 : H5 d = some (.lst []) := g5.kp d _ (fun z => z) h4
    refine z_fL (SqL.of (g5.sub.l hl)) (for_W walk_list (fun i σ H6 => ∃ (F6 : Hp) (o : Option V) (ws : List V), σ = [some (.ref a), some (.ref b), some (.ref dn), o, some (.ref d)] ∧ Mv (fun a => a = d) F5 H5 F6 H6 ∧ F6 d = none ∧ H6 d = some (.lst ws) ∧ Paired (ChgV F6) ws (chgs (ys.take i) t u))
      ⟨F5, _, [], rfl, Mv.self g5.sub, f5, h5, .nil⟩ (fun i σ H6 _ ⟨F6, _, _, _, g6, _⟩ => SqL.of (g6.sub.l (g6.ext _ _ hl))) ?_ ?_)
    · rintro i x σ H6 H6' hi ⟨F6, o, ws, rfl, g6, f6, h6, p6⟩ ⟨rfl, hx⟩
      obtain ⟨y, hy, rfl⟩ := strs_ix hx
      rw [List.length_map] at hi
      have hwl : ws.length ≤ 2000 := by
        have q := Paired.length p6
        have q2 := chgs_length (ys := ys.take i) (t := t) (u := u)
        rw [List.length_take] at q2
        omega
      have J1 : TabE F6 k1 t := E1.mono (gg g6).ext
      have J2 : TabE F6 k2 u := E2.mono (gg g6).ext
      have rd1 : Rd H6' a (.dK k1) := g6.sub.d ((gg g6).ext _ _ fa)
      have rd2 : Rd H6' b (.dK k2) := g6.sub.d ((gg g6).ext _ _ fb)
      -- how a turn ends
      have skip : ent y (aget t y) (aget u y) = none → ∃ (F7 : Hp) (o : Option V) (ws : List V), [some (V.ref a), some (.ref b), some (.ref dn), some (.str y), some (.ref d)] = [some (.ref a), some (.ref b), some (.ref dn), o, some (.ref d)] ∧ Mv (fun a => a = d) F5 H5 F7 H6' ∧ F7 d = none ∧ H6' d = some (.lst ws) ∧ Paired (ChgV F7) ws (chgs (ys.take (i + 1)) t u) := fun e => by
        refine ⟨F6, _, ws, rfl, g6, f6, h6, ?_⟩
        rw [chgs_take hy, e]
        exact (List.append_nil _).symm ▸ p6
      have add : ∀ (c : Chg) (v : V) (F7 H7 F8 H8 : Hp), ent y (aget t y) (aget u y) = some c → ChgV F7 v c → Mv N0 F6 H6' F7 H7 → Mv (fun a => a = d) F7 H7 F8 H8 → F8 d = none → H8 d = some (.lst (ws ++ [v])) →
          ∃ (F9 : Hp) (o : Option V) (ws : List V), [some (V.ref a), some (.ref b), some (.ref dn), some (.str y), some (.ref d)] = [some (.ref a), some (.ref b), some (.ref dn), o, some (.ref d)] ∧ Mv (fun a => a = d) F5 H5 F9 H8 ∧ F9 d = none ∧ H8 d = some (.lst ws) ∧ Paired (ChgV F9) ws (chgs (ys.take (i + 1)) t u) := fun c v F7 H7 F8 H8 e hc g7 g8 f8 h8 => by
        refine ⟨F8, _, _, rfl, g8.step (fun a z => .inl z) (g7.step (fun a z => z.elim) g6), f8, h8, ?_⟩
        rw [chgs_take hy, e]
        exact snocP (Paired.mapP p6 fun _ _ z => z.mono fun b o h => g8.ext b o (g7.ext b o h)) (hc.mono g8.ext)
      walk_at "st"
      rcases J2.get y with ⟨q', q⟩ | ⟨c, v, q', q, hv⟩
      · rw [q]
        refine z_T ?_
        walk_at "st"
        rename_i r F7 H7 g7 h7 F8 H8 g8 f8 h8
        exact add (.gone y) _ F7 H7 F8 H8 (by rw [q']; rfl) ⟨r, rfl, h7⟩ g7 g8 f8 h8
      rw [q]
      refine z_F ?_
      walk_at "st"
      refine z_at rd2 q ?_
      walk_at "st"
      cases c with
      | none =>
        cases hv
        refine z_dec (fun _ => ?_) (fun e => absurd rfl e)
        walk_at "st"
        rcases J1.get y with ⟨q1', q1⟩ | ⟨c1, v1, q1', q1, hv1⟩
        · rw [q1]
          refine z_T ?_
          walk_at "st"
          rename_i r F7 H7 g7 h7 F8 H8 g8 f8 h8
          exact add (.dir y) _ F7 H7 F8 H8 (by rw [q', q1']; rfl) ⟨r, rfl, h7⟩ g7 g8 f8 h8
        rw [q1]
        refine z_F ?_
        walk_at "st"
        refine z_at rd1 q1 ?_
        walk_at "st"
        cases c1 with
        | none =>
          cases hv1
          refine z_ndec (fun e => absurd rfl e) (fun _ => ?_)
          walk_at "st"
          exact skip (by rw [q', q1']; rfl)
        | some os =>
          obtain ⟨a1, rfl, ha1⟩ := hv1
          refine z_ndec (fun _ => ?_) (fun e => by cases e)
          walk_at "st"
          rename_i r F7 H7 g7 h7 F8 H8 g8 f8 h8
          exact add (.dir y) _ F7 H7 F8 H8 (by rw [q', q1']; rfl) ⟨r, rfl, h7⟩ g7 g8 f8 h8
      | some ns =>
        obtain ⟨b1, rfl, hb1⟩ := hv
        have ln := O2.get q'
        refine z_dec (fun e => by cases e) (fun _ => ?_)
        walk_at "st"
        rcases J1.get y with ⟨q1', q1⟩ | ⟨c1, v1, q1', q1, hv1⟩
        · rw [q1]
          refine z_T ?_
          walk_at "st"
          refine z_at rd2 q ?_
          walk_at "st"
          refine z_newL g6.sub (by walk_at "len") fun e0 F7 H7 g7 h7 => ?_
          walk_at "st"
          refine z_at (rd_keep rd2 g7 fun z => z) q ?_
          walk_at "st"
          refine ⟨F7, e0, b1, [], ns, rfl, g7.sub, h7, g7.ext _ _ hb1, by decide, ln, fun pp zs F8 H8 g8 h8 p8 => ?_⟩
          walk_at "st"
          rename_i r F9 H9 g9 h9 F10 H10 g10 f10 h10
          rw [List.length_map] at h9
          exact add (.file y ns.length (pagesP [] ns)) _ F9 H9 F10 H10 (by rw [q', q1']; rfl) ⟨r, pp, zs, rfl, h9, g9.ext _ _ h8, Paired.mapP p8 fun _ _ z => z.mono g9.ext⟩ (g9.step (fun a z => z.elim) (g8.step (fun a z => z.elim) g7)) g10 f10 h10
        rw [q1]
        refine z_F ?_
        walk_at "st"
        refine z_at rd1 q1 ?_
        walk_at "st"
        cases c1 with
        | none =>
          cases hv1
          refine z_dec (fun _ => ?_) (fun e => absurd rfl e)
          walk_at "st"
          refine z_at rd2 q ?_
          walk_at "st"
          refine z_newL g6.sub (by walk_at "len") fun e0 F7 H7 g7 h7 => ?_
          walk_at "st"
          refine z_at (rd_keep rd2 g7 fun z => z) q ?_
          walk_at "st"
          refine ⟨F7, e0, b1, [], ns, rfl, g7.sub, h7, g7.ext _ _ hb1, by decide, ln, fun pp zs F8 H8 g8 h8 p8 => ?_⟩
          walk_at "st"
          rename_i r F9 H9 g9 h9 F10 H10 g10 f10 h10
          rw [List.length_map] at h9
          exact add (.file y ns.length (pagesP [] ns)) _ F9 H9 F10 H10 (by rw [q', q1']; rfl) ⟨r, pp, zs, rfl, h9, g9.ext _ _ h8, Paired.mapP p8 fun _ _ z => z.mono g9.ext⟩ (g9.step (fun a z => z.elim) (g8.step (fun a z => z.elim) g7)) g10 f10 h10
        | some os =>
          obtain ⟨a1, rfl, ha1⟩ := hv1
          have lo := O1.get q1'
          refine z_dec (fun e => by cases e) (fun _ => ?_)
          walk_at "st"
          refine z_at rd1 q1 ?_
          walk_at "st"
          refine z_at rd2 q ?_
          refine z_neInts ha1 hb1 g6.sub ?_
          walk_at "st"
          refine z_ndec (fun e1 => ?_) (fun e1 => ?_)
          · walk_at "st"
            refine z_at rd2 q ?_
            walk_at "st"
            refine z_at rd1 q1 ?_
            walk_at "st"
            refine z_at rd2 q ?_
            walk_at "st"
            refine ⟨F6, a1, b1, os, ns, rfl, g6.sub, ha1, hb1, lo, ln, fun pp zs F8 H8 g8 h8 p8 => ?_⟩
            walk_at "st"
            rename_i r F9 H9 g9 h9 F10 H10 g10 f10 h10
            rw [List.length_map] at h9
            refine add (.file y ns.length (pagesP os ns)) _ F9 H9 F10 H10 ?_ ⟨r, pp, zs, rfl, h9, g9.ext _ _ h8, Paired.mapP p8 fun _ _ z => z.mono g9.ext⟩ (g9.step (fun a z => z.elim) g8) g10 f10 h10
            rw [q', q1']
            show entF y (some (some os)) ns = _
            unfold entF
            rw [if_neg (fun z => e1 (Option.some.inj (Option.some.inj z)))]
            rfl
          · walk_at "st"
            refine skip ?_
            rw [q', q1']
            show entF y (some (some os)) ns = _
            unfold entF
            rw [if_pos (by rw [e1])]
    · rintro σ H6 ⟨F6, o, ws, rfl, g6, f6, h6, p6⟩
      walk_at "st"
      obtain ⟨F7, g7, h7⟩ := freeze g6.sub f6 h6
      rw [List.length_map, List.take_length] at p6
      exact k d ys ws F7 H6 (gg (g7.step (fun a z => .inl z) g6)) h7 B (Paired.mapP p6 fun _ _ z => z.mono g7.ext)
end Cm
namespace Cm
open PySem PySem.Spec PySem.Calls L2 U Hd
variable {w : World} {K : PySem.W.Frag} {mg : Str → Option Value} {base : Heap}
theorem sc__law_is_int : FnScope ["_law_value"] ["_law_value"] (defScope s__law_is_int) := ⟨rfl, rfl, rfl, by decide +kernel, rfl, by decide +kernel, by decide +kernel⟩
theorem bd__law_is_int (kV doc pm : Value) (an : Option Addr) (cdv ct : Value) : ∀ us : List Value, us.length = (["_law_value"] : List Str).length → bindArgs (PySem.W.fnOf "_law_is_int" "_law_is_int" (defArgs s__law_is_int) (defBody s__law_is_int) (defScope s__law_is_int) .none kV doc pm an cdv ct) ⟨us, []⟩ = pure ((["_law_value"] : List Str).zip us) :=
  fun us hl => match us, hl with | [_], _ => rfl
theorem sc__law_same : FnScope ["_law_found", "_law_value", "_law_k"] ["_law_found", "_law_value"] (defScope s__law_same) := ⟨rfl, rfl, rfl, by decide +kernel, rfl, by decide +kernel, by decide +kernel⟩
theorem bd__law_same (kV doc pm : Value) (an : Option Addr) (cdv ct : Value) : ∀ us : List Value, us.length = (["_law_found", "_law_value"] : List Str).length → bindArgs (PySem.W.fnOf "_law_same" "_law_same" (defArgs s__law_same) (defBody s__law_same) (defScope s__law_same) .none kV doc pm an cdv ct) ⟨us, []⟩ = pure ((["_law_found", "_law_value"] : List Str).zip us) :=
  fun us hl => match us, hl with | [_, _], _ => rfl
mutual
/-- the longest list or tuple -/
def wid : PyData → Nat
  | .list ds | .tuple ds => max ds.length (widAll ds)
  | _ => 0
def widAll : List PyData → Nat
  | [] => 0
  | d :: r => max (wid d) (widAll r)
end
theorem wid_ix {ds : List PyData} {i : Nat} {d : PyData} (e : ds[i]? = some d) : wid d ≤ widAll ds := by
  induction ds generalizing i with
  | nil => simp at e
  | cons x xs ih =>
    rw [widAll]
    cases i with
    | zero =>
      simp at e
      subst e
      exact Nat.le_max_left _ _
    | succ i => exact Nat.le_trans (ih (by simpa using e)) (Nat.le_max_right _ _)
theorem widAll_le {ds : List PyData} {n : Nat} (h : ∀ d ∈ ds, wid d ≤ n) : widAll ds ≤ n := by
  induction ds with
  | nil =>
    rw [widAll]
    exact Nat.zero_le _
  | cons x xs ih =>
    rw [widAll]
    exact Nat.max_le.mpr ⟨h x (List.mem_cons_self ..), ih fun d hd => h d (List.mem_cons_of_mem _ hd)⟩
def spIsInt : Sp := fun vs H Q _ => ∃ i : Int, vs = [.int i] ∧ Q (.bl true) H
theorem ok_isint (T : Tx w K mg) : FnG Pr w K mg base CX0 1 "_law_is_int" ["_law_value"] spIsInt := by
  refine okG (df__law_is_int T) sc__law_is_int bd__law_is_int (fun vs H Q E h => ?_) (fun f cdv A outer s H vs Q E hr h => ?_)
  · obtain ⟨_, rfl, _⟩ := h
    rfl
  · obtain ⟨i, rfl, k⟩ := h
    refine ⟨_, (pss_one (ps_ret (pe_and (ub_isinstance (f_isinstance T) (pa_cons (pv 0) (pa_cons (pe_bltn (v := .ty "int") (by rfl) (f_int T) bb_int rfl) pa_nil))) (pe_one (pe_not (ub_isinstance (f_isinstance T) (pa_cons (pv 0) (pa_cons (pe_bltn (v := .ty "bool") (by rfl) (f_bool T) bb_bool rfl) pa_nil)))))))), ?_⟩
    walk_at "go"
    walk_at "st"
    refine z_isi (a := "int") (r := true) (.base (.int i)) (by decide +kernel) ?_
    refine ⟨true, rfl, z_T ?_⟩
    walk_at "st"
    refine z_isi (a := "int") (r := false) (.base (.int i)) (by decide +kernel) ?_
    exact ⟨false, rfl, k⟩
theorem z_neB {K : PySem.W.Frag} {a b : Bool} {H : Hp} {Q : VK} (q : Q (.bl (!decide (a = b))) H) : rNeU K (.bl a) (.bl b) H Q := .inl ⟨rfl, by rw [dec_bl, Bool.beq_eq_decide_eq]; exact q⟩
theorem z_eqB {K : PySem.W.Frag} {a : Bool} {H : Hp} {Q : VK} (q : Q (.bl true) H) : rEqU K (.bl a) (.bl a) H Q := .inl ⟨rfl, by rw [decide_eq_true rfl]; exact q⟩
def spSame (n : Nat) : Sp := fun vs H Q _ => ∃ (F : Hp) (x y : V) (d : PyData), vs = [x, y] ∧ Sub F H ∧ Df F x d ∧ Df F y d ∧ d.depth < n ∧ wid d ≤ 100000 ∧ ∀ (F' H' : Hp), Mv N0 F H F' H' → Q (.bl true) H'
theorem ok_same (T : Tx w K mg) : ∀ n, FnG Pr w K mg base CX0 (n + 2) "_law_same" ["_law_found", "_law_value"] (spSame n)
  | 0 => by
    refine okG (df__law_same T) sc__law_same bd__law_same (fun vs H Q E h => ?_) (fun f cdv A outer s H vs Q E hr h => ?_)
    · obtain ⟨_, _, _, _, rfl, _⟩ := h
      rfl
    · obtain ⟨_, _, _, _, _, _, _, _, q, _⟩ := h
      exact absurd q (Nat.not_lt_zero _)
  | n + 1 => by
    have G__law_is_int : FnG Pr w K mg base CX0 1 "_law_is_int" ["_law_value"] spIsInt := ok_isint T
    have G__law_same : FnG Pr w K mg base CX0 (n + 2) "_law_same" ["_law_found", "_law_value"] (spSame n) := ok_same T n
    refine okG (df__law_same T) sc__law_same bd__law_same (fun vs H Q E h => ?_) (fun f cdv A outer s H vs Q E hr h => ?_)
    · obtain ⟨_, _, _, _, rfl, _⟩ := h
      rfl
    · obtain ⟨F, x, y, d, rfl, S, hx, hy, hd, hw, k⟩ := h
      refine ⟨_, (pss_cons (ps_if (pt_cmp (pc_isN (pv 1))) (pss_one (ps_ret (pe_cmp (pc_isN (pv 0)) rfl))) pss_nil) (pss_cons (ps_if (pt_val (ub_isinstance (f_isinstance T) (pa_cons (pv 1) (pa_cons (pe_bltn (v := .ty "bool") (by rfl) (f_bool T) bb_bool rfl) pa_nil)))) (pss_one (ps_ret (pe_and (ub_isinstance (f_isinstance T) (pa_cons (pv 0) (pa_cons (pe_bltn (v := .ty "bool") (by rfl) (f_bool T) bb_bool rfl) pa_nil))) (pe_one (pe_cmpR (uEq hr.units : OpR _ _ (rEqU K)) (pv 0) (pv 1) (nomark _)))))) pss_nil) (pss_cons (ps_if (pt_val (ub_isinstance (f_isinstance T) (pa_cons (pv 1) (pa_cons (pe_bltn (v := .ty "int") (by rfl) (f_int T) bb_int rfl) pa_nil)))) (pss_one (ps_ret (pe_and (pe_callG G__law_is_int (hr.mono (by first | decide | omega)) (by rfl) pass0 (pa_cons (pv 0) pa_nil)) (pe_one (pe_cmpR (uEq hr.units : OpR _ _ (rEqU K)) (pv 0) (pv 1) (nomark _)))))) pss_nil) (pss_cons (ps_if (pt_val (ub_isinstance (f_isinstance T) (pa_cons (pv 1) (pa_cons (pe_bltn (v := .ty "str") (by rfl) (f_str T) bb_str rfl) pa_nil)))) (pss_one (ps_ret (pe_and (ub_isinstance (f_isinstance T) (pa_cons (pv 0) (pa_cons (pe_bltn (v := .ty "str") (by rfl) (f_str T) bb_str rfl) pa_nil))) (pe_one (pe_cmpR (uEq hr.units : OpR _ _ (rEqU K)) (pv 0) (pv 1) (nomark _)))))) pss_nil) (pss_cons (ps_if (PW.pt (pw_or (pt_cmpR (uNe hr.units : OpR _ _ (rNeU K)) (ub_isinstance (f_isinstance T) (pa_cons (pv 1) (pa_cons (pe_bltn (v := .ty "list") (by rfl) (f_list T) bb_list rfl) pa_nil))) (ub_isinstance (f_isinstance T) (pa_cons (pv 0) (pa_cons (pe_bltn (v := .ty "list") (by rfl) (f_list T) bb_list rfl) pa_nil))) (nomark _)) (pw_or1 (pt_cmpR (uNe hr.units : OpR _ _ (rNeU K)) (ub_isinstance (f_isinstance T) (pa_cons (pv 1) (pa_cons (pe_bltn (v := .ty "tuple") (by rfl) (f_tuple T) bb_tuple rfl) pa_nil))) (ub_isinstance (f_isinstance T) (pa_cons (pv 0) (pa_cons (pe_bltn (v := .ty "tuple") (by rfl) (f_tuple T) bb_tuple rfl) pa_nil))) (nomark _))))) (pss_one (ps_ret pe_bl)) pss_nil) (pss_one (ps_ret (pe_and (pe_cmpR (uEq hr.units : OpR _ _ (rEqU K)) (ub_len (f_len T) (pa_cons (pv 0) pa_nil) : PE _ _ (tCB (rLenU K) _)) (ub_len (f_len T) (pa_cons (pv 1) pa_nil) : PE _ _ (tCB (rLenU K) _)) (nomark _)) (pe_one (ub_all (f_all T) (pa_cons (pe_lc (own := [("_law_k", 2)]) rfl sc__law_same.nd (pi_range1 (by rfl) (f_range T) (pa_cons (ub_len (f_len T) (pa_cons (pv 1) pa_nil) : PE _ _ (tCB (rLenU K) _)) pa_nil)) (blkOk_by (N := ["_law_found", "_law_value", "_law_k"]) (sc := defScope s__law_same) (by decide +kernel)) (fun _ _ _ _ _ => (pg_name (i := 2) sc__law_same.nd rfl (by first | exact Or.inl rfl | exact Or.inr rfl))) (fun _ _ _ _ _ => pts_nil) (fun _ _ _ _ _ => (pe_callG G__law_same (hr.mono (by first | decide | omega)) (by rfl) pass0 (pa_cons (pe_ix (ix_seq : IxR _ (rIx K)) (pv 0) (pv 2) (fun _ _ => rfl)) (pa_cons (pe_ix (ix_seq : IxR _ (rIx K)) (pv 1) (pv 2) (fun _ _ => rfl)) pa_nil))))) pa_nil) : PE _ _ (tCB (rAll K) _))))))))))), ?_⟩
      walk_at "go"
      walk_at "st"
      have same : Q (.bl true) H := k F H (Mv.self S)
      cases d with
      | none =>
        cases hx
        cases hy
        refine z_dec (fun _ => ?_) (fun e => absurd rfl e)
        walk_at "st"
        rw [decide_eq_true rfl]
        exact same
      | bool b =>
        cases hx
        cases hy
        refine z_dec (fun e => by cases e) (fun _ => ?_)
        walk_at "st"
        refine z_isi (a := "bool") (r := true) (.base (.bl b)) (by decide +kernel) ?_
        walk_at "st"
        refine z_isi (a := "bool") (r := true) (.base (.bl b)) (by decide +kernel) ?_
        refine ⟨true, rfl, z_T ?_⟩
        walk_at "st"
        exact z_eqB same
      | int i =>
        cases hx
        cases hy
        refine z_dec (fun e => by cases e) (fun _ => ?_)
        walk_at "st"
        refine z_isi (a := "int") (r := false) (.base (.int i)) (by decide +kernel) ?_
        walk_at "st"
        refine z_isi (a := "int") (r := true) (.base (.int i)) (by decide +kernel) ?_
        walk_at "st"
        refine ⟨i, rfl, ?_⟩
        refine ⟨true, rfl, z_T ?_⟩
        walk_at "st"
        rw [decide_eq_true rfl]
        exact same
      | str z =>
        cases hx
        cases hy
        refine z_dec (fun e => by cases e) (fun _ => ?_)
        walk_at "st"
        refine z_isi (a := "str") (r := false) (.base (.str z)) (by decide +kernel) ?_
        walk_at "st"
        refine z_isi (a := "str") (r := false) (.base (.str z)) (by decide +kernel) ?_
        walk_at "st"
        refine z_isi (a := "str") (r := true) (.base (.str z)) (by decide +kernel) ?_
        walk_at "st"
        refine z_isi (a := "str") (r := true) (.base (.str z)) (by decide +kernel) ?_
        refine ⟨true, rfl, z_T ?_⟩
        walk_at "st"
        rw [decide_eq_true rfl]
        exact same
      | list ds =>
        cases hx with
        | @lst a xs _ ha hxs =>
          cases hy with
          | @lst b ys _ hb hys =>
            have tx : TyX K H (.ref a) (.type "list") := .base (.lst (S.l ha))
            have ty : TyX K H (.ref b) (.type "list") := .base (.lst (S.l hb))
            have lx := hxs.length
            have ly := hys.length
            rw [PyData.depth] at hd
            rw [wid] at hw
            have lw : ds.length ≤ 100000 := Nat.le_trans (Nat.le_max_left _ _) hw
            refine z_dec (fun e => by cases e) (fun _ => ?_)
            walk_at "st"
            refine z_isi (r := false) ty (by decide +kernel) ?_
            walk_at "st"
            refine z_isi (r := false) ty (by decide +kernel) ?_
            walk_at "st"
            refine z_isi (r := false) ty (by decide +kernel) ?_
            walk_at "st"
            refine z_isi (r := true) ty (by decide +kernel) ?_
            walk_at "st"
            refine z_isi (r := true) tx (by decide +kernel) ?_
            refine z_neB ?_
            walk_at "st"
            refine z_ndec (fun e => absurd rfl e) (fun _ => ?_)
            walk_at "st"
            refine z_isi (r := false) ty (by decide +kernel) ?_
            walk_at "st"
            refine z_isi (r := false) tx (by decide +kernel) ?_
            refine z_neB ?_
            walk_at "st"
            refine z_ndec (fun e => absurd rfl e) (fun _ => ?_)
            walk_at "st"
            refine z_dec (fun _ => ?_) (fun e => absurd (by rw [lx, ly]) e)
            walk_at "st"
            refine z_cR1 (by omega) (by omega) (lc_W (M := N0) S walk_range (fun i F1 H1 acc => acc = List.replicate i (.bl true)) (fun _ _ _ _ _ _ _ _ p _ => p) rfl (fun _ _ _ _ _ _ _ => trivial) (fun i F1 H1 acc p => by rw [p, List.length_replicate]; exact Nat.le_refl _) (by omega) ?_ (fun _ z => z.elim) ?_)
            · rintro j v F1 H1 H1' acc Kk Kn hj g1 p ⟨rfl, rfl⟩ hK hN
              have hj' : j < ds.length := by omega
              obtain ⟨v1, e1⟩ : ∃ v1, xs[j]? = some v1 := ⟨_, List.getElem?_eq_getElem (by omega)⟩
              obtain ⟨v2, e2⟩ : ∃ v2, ys[j]? = some v2 := ⟨_, List.getElem?_eq_getElem (by omega)⟩
              obtain ⟨d1, q1, r1⟩ := hxs.ix e1
              obtain ⟨d2, q2, r2⟩ := hys.ix e2
              rw [q1] at q2
              obtain rfl := Option.some.inj q2
              have i1 : atI xs (0 + (j : Int)) = some v1 := atI_of (by omega) (by rw [show (0 + (j : Int)).toNat = j by omega]; exact e1)
              have i2 : atI ys (0 + (j : Int)) = some v2 := atI_of (by omega) (by rw [show (0 + (j : Int)).toNat = j by omega]; exact e2)
              have ha1 : F1 a = _ := g1.ext _ _ ha
              have hb1 : F1 b = _ := g1.ext _ _ hb
              walk_at "st"
              refine ⟨rfl, ?_⟩
              walk_at "st"
              refine z_ixL (g1.sub.l ha1) i1 ?_
              walk_at "st"
              refine z_ixL (g1.sub.l hb1) i2 ?_
              refine ⟨F1, v1, v2, d1, rfl, g1.sub, r1.mono g1.ext, r2.mono g1.ext, ?_, Nat.le_trans (Nat.le_trans (wid_ix q1) (Nat.le_max_right _ _)) hw, fun F2 H2 g2 => hK _ F2 H2 g2 ?_⟩
              · have := depth_ix q1
                omega
              · rw [p]
                exact (List.replicate_succ' ..).symm
            · rintro D F1 H1 F2 acc hD g1 p g2 h2
              refine ⟨D, List.replicate (ys.length : Int).toNat true, rfl, SqL.of (g2.sub.l (by rw [h2, p, List.map_replicate])), ?_⟩
              rw [show (List.replicate (ys.length : Int).toNat true).all id = true from List.all_eq_true.mpr fun b hb => (List.mem_replicate.mp hb).2]
              exact k F2 H1 (g2.step (fun a e => .inr (by rw [e]; exact hD)) g1)
      | tuple ds =>
        cases hx with
        | @tup a xs _ ha hxs =>
          cases hy with
          | @tup b ys _ hb hys =>
            have tx : TyX K H (.ref a) (.type "tuple") := .base (.tup (S.t ha))
            have ty : TyX K H (.ref b) (.type "tuple") := .base (.tup (S.t hb))
            have lx := hxs.length
            have ly := hys.length
            rw [PyData.depth] at hd
            rw [wid] at hw
            have lw : ds.length ≤ 100000 := Nat.le_trans (Nat.le_max_left _ _) hw
            refine z_dec (fun e => by cases e) (fun _ => ?_)
            walk_at "st"
            refine z_isi (r := false) ty (by decide +kernel) ?_
            walk_at "st"
            refine z_isi (r := false) ty (by decide +kernel) ?_
            walk_at "st"
            refine z_isi (r := false) ty (by decide +kernel) ?_
            walk_at "st"
            refine z_isi (r := false) ty (by decide +kernel) ?_
            walk_at "st"
            refine z_isi (r := false) tx (by decide +kernel) ?_
            refine z_neB ?_
            walk_at "st"
            refine z_ndec (fun e => absurd rfl e) (fun _ => ?_)
            walk_at "st"
            refine z_isi (r := true) ty (by decide +kernel) ?_
            walk_at "st"
            refine z_isi (r := true) tx (by decide +kernel) ?_
            refine z_neB ?_
            walk_at "st"
            refine z_ndec (fun e => absurd rfl e) (fun _ => ?_)
            walk_at "st"
            refine z_dec (fun _ => ?_) (fun e => absurd (by rw [lx, ly]) e)
            walk_at "st"
            refine z_cR1 (by omega) (by omega) (lc_W (M := N0) S walk_range (fun i F1 H1 acc => acc = List.replicate i (.bl true)) (fun _ _ _ _ _ _ _ _ p _ => p) rfl (fun _ _ _ _ _ _ _ => trivial) (fun i F1 H1 acc p => by rw [p, List.length_replicate]; exact Nat.le_refl _) (by omega) ?_ (fun _ z => z.elim) ?_)
            · rintro j v F1 H1 H1' acc Kk Kn hj g1 p ⟨rfl, rfl⟩ hK hN
              have hj' : j < ds.length := by omega
              obtain ⟨v1, e1⟩ : ∃ v1, xs[j]? = some v1 := ⟨_, List.getElem?_eq_getElem (by omega)⟩
              obtain ⟨v2, e2⟩ : ∃ v2, ys[j]? = some v2 := ⟨_, List.getElem?_eq_getElem (by omega)⟩
              obtain ⟨d1, q1, r1⟩ := hxs.ix e1
              obtain ⟨d2, q2, r2⟩ := hys.ix e2
              rw [q1] at q2
              obtain rfl := Option.some.inj q2
              have i1 : atI xs (0 + (j : Int)) = some v1 := atI_of (by omega) (by rw [show (0 + (j : Int)).toNat = j by omega]; exact e1)
              have i2 : atI ys (0 + (j : Int)) = some v2 := atI_of (by omega) (by rw [show (0 + (j : Int)).toNat = j by omega]; exact e2)
              have ha1 : F1 a = _ := g1.ext _ _ ha
              have hb1 : F1 b = _ := g1.ext _ _ hb
              walk_at "st"
              refine ⟨rfl, ?_⟩
              walk_at "st"
              refine z_ixT (g1.sub.t ha1) i1 ?_
              walk_at "st"
              refine z_ixT (g1.sub.t hb1) i2 ?_
              refine ⟨F1, v1, v2, d1, rfl, g1.sub, r1.mono g1.ext, r2.mono g1.ext, ?_, Nat.le_trans (Nat.le_trans (wid_ix q1) (Nat.le_max_right _ _)) hw, fun F2 H2 g2 => hK _ F2 H2 g2 ?_⟩
              · have := depth_ix q1
                omega
              · rw [p]
                exact (List.replicate_succ' ..).symm
            · rintro D F1 H1 F2 acc hD g1 p g2 h2
              refine ⟨D, List.replicate (ys.length : Int).toNat true, rfl, SqL.of (g2.sub.l (by rw [h2, p, List.map_replicate])), ?_⟩
              rw [show (List.replicate (ys.length : Int).toNat true).all id = true from List.all_eq_true.mpr fun b hb => (List.mem_replicate.mp hb).2]
              exact k F2 H1 (g2.step (fun a e => .inr (by rw [e]; exact hD)) g1)
      | dict _ => cases hx
end Cm
namespace U
open PySem PySem.Spec PySem.Calls L2
/-- as okG, of a given function object -/
theorem okD {P : Program} {w : World} {K : PySem.W.Frag} {mg : Str → Option Value} {base : Heap} {x : Str} {st : Stmt} {N ps : List Str} {sp : Sp} {k : Nat} {f : Addr} {fd : FuncData} (F : FunD K x x (defArgs st) (defBody st) (defScope st) [] [] f fd) (S : FnScope N ps (defScope st)) (len : ∀ vs H Q E, sp vs H Q E → vs.length = ps.length)
    (body : ∀ (cdv : Value) (A : Around) (outer : List Env) (s : Shared) (H : Hp) (vs : List V) (Q : VK) (E : XK), Room k (A.deeper (PyProof.Rows.envOfC x (defScope st) s.heap.objs.size f cdv)) → sp vs H Q E →
      ∃ t, PSs (cxOf CX0 P w K mg base N x (defScope st) f cdv A outer s H E).nox (defBody st) t ∧ t ⟨fun _ H' => Q .non H', Q, fun _ _ => False, fun _ _ => False⟩ (start N vs) H) : FnOk P w K mg base CX0 (k + 1) f fd ps sp :=
  F.ok S len fun cdv A outer s H vs Q E hr h => by
    obtain ⟨t, h1, h2⟩ := body cdv A outer s H vs Q E hr h
    exact ⟨t, h1.nox, h2⟩
end U
namespace Cm
open PySem PySem.Spec PySem.Calls L2 U Hd
variable {w : World} {K : PySem.W.Frag} {mg : Str → Option Value} {base : Heap}
theorem sc_law : FnScope ["_law_script", "_law_pot_here", "_law_old", "_law_new", "_law_path_here", "_law_first", "_law_second", "_law_handed", "_law_found", "_law_other"] ["_law_script"] (defScope s_law) := ⟨rfl, rfl, rfl, by decide +kernel, rfl, by decide +kernel, by decide +kernel⟩
theorem bd_law (kV doc pm : Value) (an : Option Addr) (cdv ct : Value) : ∀ us : List Value, us.length = (["_law_script"] : List Str).length → bindArgs (PySem.W.fnOf "law" "law" (defArgs s_law) (defBody s_law) (defScope s_law) .none kV doc pm an cdv ct) ⟨us, []⟩ = pure ((["_law_script"] : List Str).zip us) :=
  fun us hl => match us, hl with | [_], _ => rfl
theorem wid_ints (ns : List Int) : wid (intsD ns) = ns.length := by
  unfold intsD
  rw [wid, List.length_map]
  have : widAll (ns.map PyData.int) ≤ 0 := widAll_le fun d hd => by
    obtain ⟨n, _, rfl⟩ := List.mem_map.mp hd
    exact Nat.zero_le _
  omega
theorem wid_pg {g : Pg} (h : g.2.length ≤ 16) : wid (pgD g) ≤ 16 := by
  unfold pgD
  rw [wid]
  refine Nat.max_le.mpr ⟨Nat.le_of_ble_eq_true rfl, widAll_le fun d hd => ?_⟩
  simp only [List.mem_cons, List.not_mem_nil, or_false] at hd
  rcases hd with rfl | rfl
  · exact Nat.zero_le _
  · rw [wid_ints]
    exact h
theorem pgAt_length (ns : List Int) (k : Nat) : (pgAt ns k).length ≤ 16 := by
  unfold pgAt
  rw [List.length_take]
  omega
theorem wid_chg {c : Chg} {y : Str} {o n : Option Cnt} (h : ent y o n = some c) (hn : ∀ ns, n = some (some ns) → ns.length ≤ 5000) : wid (chgD c) ≤ 5000 := by
  match n, h, hn with
  | none, h, _ =>
    obtain rfl := Option.some.inj (show some (Chg.gone y) = some c from h)
    exact Nat.le_of_ble_eq_true rfl
  | some none, h, _ =>
    have h' : (if o = some none then none else some (Chg.dir y)) = some c := h
    split at h'
    · cases h'
    · obtain rfl := Option.some.inj h'
      exact Nat.le_of_ble_eq_true rfl
  | some (some ns), h, hn =>
    have h' : entF y o ns = some c := h
    unfold entF at h'
    split at h'
    · cases h'
    · obtain rfl := Option.some.inj h'
      have l := hn ns rfl
      unfold chgD
      rw [wid]
      refine Nat.max_le.mpr ⟨Nat.le_of_ble_eq_true rfl, widAll_le fun d hd => ?_⟩
      simp only [List.mem_cons, List.not_mem_nil, or_false] at hd
      rcases hd with rfl | rfl | rfl | rfl
      · exact Nat.zero_le _
      · exact Nat.zero_le _
      · exact Nat.zero_le _
      · rw [wid, List.length_map]
        unfold pagesP
        refine Nat.max_le.mpr ⟨Nat.le_trans (pgs_length _ _ _) (by omega), widAll_le fun d hd => ?_⟩
        obtain ⟨g, hg, rfl⟩ := List.mem_map.mp hd
        refine Nat.le_trans (wid_pg ?_) (by decide)
        unfold pgs at hg
        obtain ⟨k, _, hk⟩ := List.mem_filterMap.mp hg
        split at hk
        · cases hk
        · obtain rfl := Option.some.inj hk
          exact pgAt_length _ _
theorem wid_chgs {t u : Tab} {ys : List Str} (B : Both t u ys) (ht : t.length ≤ 1000) (hu : u.length ≤ 1000) (O : TabOk u) : wid (chgsD (chgs ys t u)) ≤ 100000 := by
  unfold chgsD
  rw [wid, List.length_map]
  refine Nat.max_le.mpr ⟨Nat.le_trans chgs_length (Nat.le_trans B.2.2.2 (by omega)), widAll_le fun d hd => ?_⟩
  obtain ⟨c, hc, rfl⟩ := List.mem_map.mp hd
  unfold chgs at hc
  obtain ⟨y, _, hy⟩ := List.mem_filterMap.mp hc
  exact Nat.le_trans (wid_chg hy fun ns e => O.get e) (by decide)
theorem chgs_df {F : Hp} {a : Addr} {ws : List V} {cs : List Chg} (h : F a = some (.lst ws)) (p : Paired (ChgV F) ws cs) : Df F (.ref a) (chgsD cs) := .lst h (DfAll.of (fun _ _ z => ChgV.df z) p)
theorem cts_df {F : Hp} {a : Addr} {ws : List V} {ct : Tab} (h : F a = some (.lst ws)) (p : Paired (RowV F) ws ct) : Df F (.ref a) (ctsD ct) := .lst h (DfAll.of (fun _ _ z => RowV.df z) p)
theorem Srt.ok {t ct : Tab} (h : Srt t ct) (o : TabOk t) : TabOk ct := o.perm h.2
theorem TabU.ok {F H : Hp} {a : Addr} {t : Tab} (h : TabU F H a t) : TabOk t ∧ t.length ≤ 50 := by
  obtain ⟨_, _, _, _, o, l⟩ := h
  exact ⟨o, l⟩
theorem TabU.new {F H H1 : Hp} {d : Addr} (s : Sub F H) (n : New H H1 d (.dK [])) : ∃ F1, Mv N0 F H F1 H1 ∧ TabU F1 H1 d [] := by
  obtain ⟨F1, g, h⟩ := n.fz s
  refine ⟨F1, g, [], h, ?_, .nil, .nil, Nat.zero_le _⟩
  rw [n.2]
  exact upd_same
theorem aput_len_has {α : Type} {t : List (Str × α)} {p : Str} {c : α} (h : p ∈ t.map (·.1)) : (aput t p c).length = t.length := by
  have e := aput_keys (t := t) (p := p) (c := c)
  rw [if_pos h] at e
  have e2 := congrArg List.length e
  rw [List.length_map, List.length_map] at e2
  exact e2
def spLaw (K : PySem.W.Frag) : Sp := fun vs H Q _ => ∃ (a : Addr) (ns : List Int), vs = [.ref a] ∧ SqL K H a (ns.map V.int) ∧ ns.length ≤ 63 ∧ ∀ H', Q (.bl true) H'
theorem ok_law (T : Tx w K mg) {f : Addr} {fd : FuncData} (FD : FunD K "law" "law" (defArgs s_law) (defBody s_law) (defScope s_law) [] [] f fd) : FnOk Pr w K mg base CX0 10 f fd ["_law_script"] (spLaw K) := by
  have G__law_pot : FnG Pr w K mg base CX0 1 "_law_pot" ["_law_script"] (spPot K) := ok_pot T
  have G__law_next : FnG Pr w K mg base CX0 1 "_law_next" ["_law_pot_here", "_law_limit"] spNext := ok_next T
  have G__law_table : FnG Pr w K mg base CX0 5 "_law_table" ["_law_pot_here", "_law_table_here", "_law_count"] spTable := ok_table T
  have G__law_twin : FnG Pr w K mg base CX0 1 "_law_twin" ["_law_table_here"] spTwin := ok_twin T
  have G__law_contents : FnG Pr w K mg base CX0 1 "_law_contents" ["_law_table_here"] spContents := ok_contents T
  have G__law_copy : FnG Pr w K mg base CX0 1 "_law_copy" ["_law_contents_here"] spCopy := ok_copy T
  have G_changes : FnG Pr w K mg base CX0 3 "changes" ["old", "new"] spChanges := ok_changes T
  have G__law_due : FnG Pr w K mg base CX0 2 "_law_due" ["_law_old", "_law_new"] spDue := ok_due T
  have G__law_same : FnG Pr w K mg base CX0 8 "_law_same" ["_law_found", "_law_value"] (spSame 6) := ok_same T 6
  refine okD FD sc_law (fun vs H Q E h => ?_) (fun cdv A outer s H vs Q E hr h => ?_)
  · obtain ⟨_, _, rfl, _⟩ := h
    rfl
  · obtain ⟨a, ns, rfl, hS, hn, k⟩ := h
    refine ⟨_, (pss_cons (ps_set (i := 1) sc_law.nd rfl (by first | exact Or.inl rfl | exact Or.inr rfl) (pe_callG G__law_pot (hr.mono (by first | decide | omega)) (by rfl) pass0 (pa_cons (pv 0) pa_nil))) (pss_cons (ps_set (i := 2) sc_law.nd rfl (by first | exact Or.inl rfl | exact Or.inr rfl) (pe_callG G__law_table (hr.mono (by first | decide | omega)) (by rfl) pass0 (pa_cons (pv 1) (pa_cons pe_dnewK (pa_cons (pe_op (uAdd : OpR _ _ (rAddU K)) pe_int (ub_min (f_min T) (pa_cons (pe_op op_fdiv (ub_len (f_len T) (pa_cons (pv 0) pa_nil) : PE _ _ (tCB (rLenU K) _)) pe_int) (pa_cons pe_int pa_nil)))) pa_nil))))) (pss_cons (ps_set (i := 3) sc_law.nd rfl (by first | exact Or.inl rfl | exact Or.inr rfl) (pe_callG G__law_table (hr.mono (by first | decide | omega)) (by rfl) pass0 (pa_cons (pv 1) (pa_cons (pv 2) (pa_cons (pe_callG G__law_next (hr.mono (by first | decide | omega)) (by rfl) pass0 (pa_cons (pv 1) (pa_cons pe_int pa_nil))) pa_nil))))) (pss_cons (ps_if (pt_cmpR (uEq hr.units : OpR _ _ (rEqU K)) (pe_callG G__law_next (hr.mono (by first | decide | omega)) (by rfl) pass0 (pa_cons (pv 1) (pa_cons pe_int pa_nil))) pe_int (nomark _)) (pss_one (ps_set (i := 3) sc_law.nd rfl (by first | exact Or.inl rfl | exact Or.inr rfl) (pe_callG G__law_table (hr.mono (by first | decide | omega)) (by rfl) pass0 (pa_cons (pv 1) (pa_cons pe_dnewK (pa_cons (pe_op (uAdd : OpR _ _ (rAddU K)) pe_int (ub_min (f_min T) (pa_cons (pe_op op_fdiv (ub_len (f_len T) (pa_cons (pv 0) pa_nil) : PE _ _ (tCB (rLenU K) _)) pe_int) (pa_cons pe_int pa_nil)))) pa_nil)))))) pss_nil) (pss_cons (ps_for PassesOwn.never rfl (pi_list (U.ub_sortedD (f_sorted T) (pa_cons (pv 2) pa_nil))) (pg_name (i := 4) sc_law.nd rfl (by first | exact Or.inl rfl | exact Or.inr rfl)) (pss_one (ps_if (PW.pt (pw_and (pt_cmpR (uEq hr.units : OpR _ _ (rEqU K)) (pe_callG G__law_next (hr.mono (by first | decide | omega)) (by rfl) pass0 (pa_cons (pv 1) (pa_cons pe_int pa_nil))) pe_int (nomark _)) (pw_and (pt_cmp (pc_din (hu_of hr) (pv 4) (pv 3))) (pw_and1 (pt_not (pt_val (ub_any (f_any T) (pa_cons (pe_lock (pe_lc (own := [("_law_other", 9)]) rfl sc_law.nd (pi_keys (pv 3)) (blkOk_by (N := ["_law_script", "_law_pot_here", "_law_old", "_law_new", "_law_path_here", "_law_first", "_law_second", "_law_handed", "_law_found", "_law_other"]) (sc := defScope s_law) (by decide +kernel)) (fun _ _ _ _ _ => (pg_name (i := 9) sc_law.nd rfl (by first | exact Or.inl rfl | exact Or.inr rfl))) (fun _ _ _ _ _ => pts_nil) (fun _ _ _ _ _ => (pe_m1 PySem.F.slot_str_startswith PySem.F.type_str_startswith mt_startswith (pv 9) (pe_op (uAdd : OpR _ _ (rAddU K)) (pv 4) pe_str))))) pa_nil) : PE _ _ (tCB (rAny K) _)))))))) (pss_cons (ps_set (i := 3) sc_law.nd rfl (by first | exact Or.inl rfl | exact Or.inr rfl) (pe_callG G__law_twin (hr.mono (by first | decide | omega)) (by rfl) pass0 (pa_cons (pv 3) pa_nil))) (pss_one (ps_dput (hu_of hr) (pv 3) (pv 4) (pe_ix (ix_seq : IxR _ (rIx K)) (pe_lst (pa_cons pe_non (pa_cons (pe_lst pa_nil) (pa_cons (pe_op uMul (pe_lst (pa_cons pe_int pa_nil)) pe_int) (pa_cons (pe_op (uAdd : OpR _ _ (rAddU K)) (pe_lst (pa_cons pe_int pa_nil)) (pe_op uMul (pe_lst (pa_cons pe_int pa_nil)) pe_int)) pa_nil))))) (pe_callG G__law_next (hr.mono (by first | decide | omega)) (by rfl) pass0 (pa_cons (pv 1) (pa_cons pe_int pa_nil))) (fun _ _ => rfl)) rfl))) pss_nil))) (pss_cons (ps_set (i := 5) sc_law.nd rfl (by first | exact Or.inl rfl | exact Or.inr rfl) (pe_callG G__law_contents (hr.mono (by first | decide | omega)) (by rfl) pass0 (pa_cons (pv 2) pa_nil))) (pss_cons (ps_set (i := 6) sc_law.nd rfl (by first | exact Or.inl rfl | exact Or.inr rfl) (pe_callG G__law_contents (hr.mono (by first | decide | omega)) (by rfl) pass0 (pa_cons (pv 3) pa_nil))) (pss_cons (ps_set (i := 7) sc_law.nd rfl (by first | exact Or.inl rfl | exact Or.inr rfl) (pe_lst (pa_cons (pe_callG G__law_copy (hr.mono (by first | decide | omega)) (by rfl) pass0 (pa_cons (pv 5) pa_nil)) (pa_cons (pe_callG G__law_copy (hr.mono (by first | decide | omega)) (by rfl) pass0 (pa_cons (pv 6) pa_nil)) pa_nil)))) (pss_cons (ps_set (i := 8) sc_law.nd rfl (by first | exact Or.inl rfl | exact Or.inr rfl) (pe_callG G_changes (hr.mono (by first | decide | omega)) (by rfl) pass0 (pa_cons (pe_ix (ix_seq : IxR _ (rIx K)) (pv 7) pe_int (fun _ _ => rfl)) (pa_cons (pe_ix (ix_seq : IxR _ (rIx K)) (pv 7) pe_int (fun _ _ => rfl)) pa_nil)))) (pss_cons (ps_if (PW.pt (pw_or (pt_cmpR (uNe hr.units : OpR _ _ (rNeU K)) (pv 7) (pe_lst (pa_cons (pv 5) (pa_cons (pv 6) pa_nil))) (nomark _)) (pw_or1 (pt_not (pt_val (pe_callG G__law_same (hr.mono (by first | decide | omega)) (by rfl) pass0 (pa_cons (pv 8) (pa_cons (pe_callG G__law_due (hr.mono (by first | decide | omega)) (by rfl) pass0 (pa_cons (pv 2) (pa_cons (pv 3) pa_nil))) pa_nil)))))))) (pss_one (ps_ret pe_bl)) pss_nil) (pss_one (ps_ret (pe_and (pe_cmpR (uEq hr.units : OpR _ _ (rEqU K)) (pe_callG G_changes (hr.mono (by first | decide | omega)) (by rfl) pass0 (pa_cons (pv 5) (pa_cons (pe_callG G__law_copy (hr.mono (by first | decide | omega)) (by rfl) pass0 (pa_cons (pv 5) pa_nil)) pa_nil))) (pe_lst pa_nil) (nomark _)) (pe_one (pe_callG G__law_same (hr.mono (by first | decide | omega)) (by rfl) pass0 (pa_cons (pe_callG G_changes (hr.mono (by first | decide | omega)) (by rfl) pass0 (pa_cons (pv 6) (pa_cons (pv 5) pa_nil))) (pa_cons (pe_callG G__law_due (hr.mono (by first | decide | omega)) (by rfl) pass0 (pa_cons (pv 3) (pa_cons (pv 2) pa_nil))) pa_nil))))))))))))))))), ?_⟩
    walk_at "go"
    have S : Sub (fun _ => none) H := fun b o h => by cases h
    generalize hF : (fun _ : Addr => (none : Option HO)) = F at S
    have keep : ∀ {F1 H1}, Mv N0 F H F1 H1 → SqL K H1 a (ns.map V.int) := fun g => by
      rcases hS with h | h
      · exact .inl (rd_keep h g fun z => z)
      · exact .inr h
    walk_at "st"
    refine ⟨F, a, ns, rfl, S, hS, hn, fun p F1 H1 g1 np P1 => ?_⟩
    walk_at "st"
    refine z_dnew fun d H2 n2 => ?_
    obtain ⟨F2, g2, U2⟩ := TabU.new g1.sub n2
    have g02 : Mv N0 F H F2 H2 := g2.step (fun a z => z.elim) g1
    walk_at "st"
    refine z_len1 (keep g02) ?_
    walk_at "st"
    rw [List.length_map]
    have P2 : PotOk F2 H2 p := P1.mv g2 fun z => z
    refine ⟨F2, p, d, [], _, rfl, g02.sub, P2, U2, by split <;> omega, by split <;> omega, fun t1 tb1 F3 H3 g3 P3 U3 => ?_⟩
    have g03 : Mv N0 F H F3 H3 := g3.step (fun a e => .inr (by rw [e]; exact np)) g02
    walk_at "st"
    refine U.next_at g3.sub P3 (by omega) (by omega) ?_
    intro r4 F4 H4 q4 q4' g4 P4
    have g04 : Mv N0 F H F4 H4 := g4.step (fun a e => .inr (by rw [e]; exact np)) g03
    have U4 : TabU F4 H4 t1 tb1 := U3.mv g4 (U3.ne P3.1)
    refine ⟨F4, p, t1, tb1, r4, rfl, g4.sub, P4, U4, q4, by omega, fun t2 tb2 F5 H5 g5 P5 V5 => ?_⟩
    have g05 : Mv N0 F H F5 H5 := g5.step (fun a e => .inr (by rw [e]; exact np)) g04
    have U5 : TabU F5 H5 t1 tb1 := U4.mv g5 (U4.ne P4.1)
    clear g1 P1 g2 U2 P2 g3 P3 U3 g4 P4 U4 g5 g02 g03 g04
    walk_at "sj"
    refine z_seqJ (fun σ' H6 => ∃ (F6 : Hp) (t2 : Addr) (tb2 : Tab), σ' = [some (.ref a), some (.ref p), some (.ref t1), some (.ref t2), none, none, none, none, none, none] ∧ Mv N0 F H F6 H6 ∧ PotOk F6 H6 p ∧ TabU F6 H6 t1 tb1 ∧ TabU F6 H6 t2 tb2) ?_ (fun N hN => ?_)
    rotate_left
    · walk_at "st"
      refine U.next_at g05.sub P5 (by omega) (by omega) ?_
      intro r6 F6 H6 q6 q6' g6 P6
      have g06 : Mv N0 F H F6 H6 := g6.step (fun a e => .inr (by rw [e]; exact np)) g05
      have U6 : TabU F6 H6 t1 tb1 := U5.mv g6 (U5.ne P5.1)
      have V6 : TabU F6 H6 t2 tb2 := V5.mv g6 (V5.ne P5.1)
      walk_at "st"
      refine z_dec (fun _ => ?_) (fun _ => ?_)
      · walk_at "st"
        refine z_dnew fun d7 H7 n7 => ?_
        obtain ⟨F7, g7, W7⟩ := TabU.new g6.sub n7
        have g07 : Mv N0 F H F7 H7 := g7.step (fun a z => z.elim) g06
        walk_at "st"
        refine z_len1 (keep g07) ?_
        walk_at "st"
        rw [List.length_map]
        have P7 : PotOk F7 H7 p := P6.mv g7 fun z => z
        have U7 : TabU F7 H7 t1 tb1 := U6.mv g7 fun z => z
        refine ⟨F7, p, d7, [], _, rfl, g07.sub, P7, W7, by split <;> omega, by split <;> omega, fun t8 tb8 F8 H8 g8 P8 U8 => ?_⟩
        walk_at "st"
        exact hN _ _ ⟨F8, t8, tb8, rfl, g8.step (fun a e => .inr (by rw [e]; exact np)) g07, P8, U7.mv g8 (U7.ne P7.1), U8⟩
      · walk_at "st"
        exact hN _ _ ⟨F6, t2, tb2, rfl, g06, P6, U6, V6⟩
    clear U5 V5 P5 g05
    rintro σ' H6 ⟨F6, t2', tb2', rfl, g06, P6, U6, V6⟩
    walk_at "st"
    have U6' := U6
    obtain ⟨k1, fk1, hk1, E1, O1, l1⟩ := U6'
    refine z_sortD (.inl hk1) E1.keys g06.sub fun ys hp hso l F7 H7 g7 hl => ?_
    have P7 : PotOk F7 H7 p := P6.mv g7 fun z => z
    have U7 : TabU F7 H7 t1 tb1 := U6.mv g7 fun z => z
    have V7 : TabU F7 H7 t2' tb2' := V6.mv g7 fun z => z
    have g07 : Mv N0 F H F7 H7 := g7.step (fun a z => z.elim) g06
    have ylen : ∀ y ∈ ys, y.length ≤ 60 := fun y hy => by
      obtain ⟨e, he, q⟩ := List.mem_map.mp (hp.mem_iff.mp hy)
      rw [← q]
      exact O1.key e he
    refine z_fL (SqL.of (g7.sub.l hl)) (for_W walk_list (fun i σ H8 => ∃ (F8 : Hp) (o : Option V) (t2 : Addr) (tb2 : Tab), σ = [some (.ref a), some (.ref p), some (.ref t1), some (.ref t2), o, none, none, none, none, none] ∧ Mv N0 F H F8 H8 ∧ F8 l = some (.lst (ys.map V.str)) ∧ PotOk F8 H8 p ∧ TabU F8 H8 t1 tb1 ∧ TabU F8 H8 t2 tb2)
      ⟨F7, _, t2', tb2', rfl, g07, hl, P7, U7, V7⟩ (fun i σ H8 _ ⟨F8, _, _, _, _, g8, hl8, _⟩ => SqL.of (g8.sub.l hl8)) ?_ ?_)
    · clear P6 U6 V6 g06 P7 U7 V7 g07 g7 hk1 fk1 E1
      rintro i x σ H8 H8' hi ⟨F8, o, t2, tb2, rfl, g8, hl8, P8, U8, V8⟩ ⟨rfl, hx⟩
      obtain ⟨y, hy, rfl⟩ := strs_ix hx
      have hy60 := ylen y (List.mem_of_getElem? hy)
      walk_at "st"
      refine U.next_at g8.sub P8 (by omega) (by omega) ?_
      intro r9 F9 H9 q9 q9' g9 P9
      have g09 : Mv N0 F H F9 H9 := g9.step (fun a e => .inr (by rw [e]; exact np)) g8
      have U9 : TabU F9 H9 t1 tb1 := U8.mv g9 (U8.ne P8.1)
      have V9 : TabU F9 H9 t2 tb2 := V8.mv g9 (V8.ne P8.1)
      have hl9 : F9 l = _ := g9.ext _ _ hl8
      walk_at "st"
      refine z_dec (fun _ => ?_) (fun _ => ?_)
      rotate_left
      · walk_at "st"
        exact ⟨F9, _, t2, tb2, rfl, g09, hl9, P9, U9, V9⟩
      walk_at "st"
      have V9' := V9
      obtain ⟨k2, fk2, hk2, E2, O2, l2⟩ := V9'
      have lk2 : k2.length ≤ 50 := by
        rw [E2.length]
        exact l2
      refine z_has (.inl hk2) ?_
      walk_at "st"
      rcases E2.get y with ⟨_, q⟩ | ⟨c, v, hc, q, hv⟩
      · rw [q]
        refine z_F ?_
        walk_at "st"
        exact ⟨F9, _, t2, tb2, rfl, g09, hl9, P9, U9, V9⟩
      rw [q]
      refine z_T ?_
      walk_at "st"
      refine lc_keys (d := t2) (kvs := k2) g9.sub rfl hk2 (.inr fk2) (by omega) (fun i acc => ∃ bs : List Bool, acc = bs.map V.bl ∧ bs.length = i) ⟨[], rfl, rfl⟩ (fun i acc ⟨bs, e, hl⟩ => by rw [e, List.length_map]; omega) ?_ ?_
      · rintro i ky v' F10 H10 acc Kk Kn hi g10 s10 _ ext10 rd10 ⟨bs, rfl, hl⟩ hK hN
        obtain ⟨x, hx, r1, r2⟩ := E2.ix hi
        dsimp only at r1
        subst r1
        dsimp only [kV]
        walk_at "st"
        refine ⟨rfl, ?_⟩
        walk_at "st"
        refine z_addS (by rw [show ("/" : Str).length = 1 from rfl, sizeLine_eq]; omega) ?_
        refine ⟨_, _, rfl, rfl, ?_⟩
        refine hK _ F10 H10 (Mv.self s10) ⟨bs ++ [_], by rw [List.map_append]; rfl, by simp [hl]⟩
      rintro D F10 H10 acc g10 hD hl10 ⟨bs, rfl, hbl⟩
      refine ⟨D, bs, rfl, SqL.of (g10.sub.l hl10), ?_⟩
      have P10 : PotOk F10 H10 p := P9.mv g10 fun z => z
      have U10 : TabU F10 H10 t1 tb1 := U9.mv g10 fun z => z
      have V10 : TabU F10 H10 t2 tb2 := V9.mv g10 fun z => z
      have g010 : Mv N0 F H F10 H10 := g10.step (fun a z => z.elim) g09
      have hl10' : F10 l = _ := g10.ext _ _ hl9
      clear P9 U9 g09 g10 hl9 P8 U8 V8 g8 hl8 V9 hk2 fk2
      walk_at "st"
      refine z_nb (fun _ => ?_) (fun _ => ?_)
      rotate_left
      · walk_at "st"
        exact ⟨F10, _, t2, tb2, rfl, g010, hl10', P10, U10, V10⟩
      walk_at "st"
      refine ⟨F10, t2, tb2, rfl, g010.sub, V10.un, V10.f, fun dt F11 H11 g11 hdt W11 => ?_⟩
      have P11 : PotOk F11 H11 p := P10.mv g11 fun z => z
      have U11 : TabU F11 H11 t1 tb1 := U10.mv g11 fun z => z
      have g011 : Mv N0 F H F11 H11 := g11.step (fun a z => z.elim) g010
      have hl11 : F11 l = _ := g11.ext _ _ hl10'
      have ndt : H dt = none := g010.fresh hdt
      have pdt : p ≠ dt := fun e => by
        obtain ⟨o, ho⟩ := P10.al
        rw [e, hdt] at ho
        cases ho
      clear P10 U10 V10 g010 hl10' g11
      walk_at "st"
      refine z_newL g011.sub (by walk_at "len") fun e0 F12 H12 g12 h12 => ?_
      walk_at "st"
      rename_i z1 F13 H13 g13 h13
      refine z_rep (by walk_at "ha") (by omega) (by omega) (by rw [List.length_cons, List.length_nil, sizeLine_eq]; omega) (by walk_at "sub") fun z20 F14 H14 g14 h14 => ?_
      rw [rep_ints] at h14
      walk_at "st"
      rename_i z5 F15 H15 g15 h15 z0 F16 H16 g16 h16
      refine z_rep (by walk_at "ha") (by omega) (by omega) (by rw [List.length_cons, List.length_nil, sizeLine_eq]; omega) (by walk_at "sub") fun z16 F17 H17 g17 h17 => ?_
      rw [rep_ints] at h17
      refine z_addL (xs := [V.int 5]) (by walk_at "ha") (by walk_at "ha") (by rw [List.length_map, List.length_replicate, List.length_cons, List.length_nil, sizeLine_eq]; omega) (by walk_at "sub") fun z17 F18 H18 g18 h18 => ?_
      walk_at "st"
      rename_i lv F19 H19 g19 h19
      have gx : Mv N0 F11 H11 F19 H19 := g19.step (fun a z => z.elim) (g18.step (fun a z => z.elim) (g17.step (fun a z => z.elim) (g16.step (fun a z => z.elim) (g15.step (fun a z => z.elim) (g14.step (fun a z => z.elim) (g13.step (fun a z => z.elim) g12))))))
      have c12 : F19 e0 = some (.lst (([] : List Int).map V.int)) := g19.ext _ _ (g18.ext _ _ (g17.ext _ _ (g16.ext _ _ (g15.ext _ _ (g14.ext _ _ (g13.ext _ _ h12))))))
      have c20 : F19 z20 = some (.lst ((List.replicate (20 : Int).toNat (0 : Int)).map V.int)) := g19.ext _ _ (g18.ext _ _ (g17.ext _ _ (g16.ext _ _ (g15.ext _ _ h14))))
      have c17 : F19 z17 = some (.lst ((5 :: List.replicate (16 : Int).toNat (0 : Int)).map V.int)) := g19.ext _ _ h18
      clear g12 g13 g14 g15 g16 g17 g18 g19 h12 h13 h14 h15 h16 h17 h18
      have P19 : PotOk F19 H19 p := P11.mv gx fun z => z
      refine U.next_at gx.sub P19 (by omega) (by omega) ?_
      intro r20 F20 H20 q20 q20' g20 P20
      have gy : Mv (Mp p) F11 H11 F20 H20 := g20.step (fun a z => .inl z) (gx.weak fun _ z => z.elim)
      have U20 : TabU F20 H20 t1 tb1 := U11.mv gy (U11.ne P11.1)
      have W20 : TabV F20 H20 dt tb2 := W11.mv gy pdt.symm
      have g020 : Mv N0 F H F20 H20 := gy.step (fun a e => .inr (by rw [e]; exact np)) g011
      have hl20 : F20 l = _ := gy.ext _ _ hl11
      have cn : ∃ (c' : Cnt) (v' : V), atI [V.non, .ref e0, .ref z20, .ref z17] r20 = some v' ∧ CntV F20 v' c' ∧ ∀ ns, c' = some ns → ns.length ≤ 5000 := by
        have cases4 : r20 = 0 ∨ r20 = 1 ∨ r20 = 2 ∨ r20 = 3 := by omega
        rcases cases4 with rfl | rfl | rfl | rfl
        · exact ⟨none, .non, rfl, rfl, fun ns z => by cases z⟩
        · exact ⟨some [], .ref e0, rfl, ⟨e0, rfl, g20.ext _ _ c12⟩, fun ns z => by cases z; decide⟩
        · exact ⟨some _, .ref z20, rfl, ⟨z20, rfl, g20.ext _ _ c20⟩, fun ns z => by cases z; rw [List.length_replicate]; decide⟩
        · exact ⟨some _, .ref z17, rfl, ⟨z17, rfl, g20.ext _ _ c17⟩, fun ns z => by cases z; rw [List.length_cons, List.length_replicate]; decide⟩
      obtain ⟨c', v', hat, hcv, hcl⟩ := cn
      have h20v : F20 lv = _ := g20.ext _ _ h19
      refine z_ixL (g20.sub.l h20v) hat ?_
      clear gx gy g20 c12 c20 c17 P19 P11 U11 W11 g011 hl11 h19
      obtain ⟨f20, k20, h20, E20, O20⟩ := W20
      walk_at "st"
      refine z_put h20 (by rw [E20.length, sizeLine_eq]; omega) g020.sub f20 fun F21 H21 g21 f21 h21 => ?_
      obtain ⟨F22, g22, h22⟩ := freeze g21.sub f21 h21
      have gz : Mv (fun a => a = dt) F20 H20 F22 H21 := g22.step (fun a z => .inl z) g21
      have hym : y ∈ tb2.map (·.1) := by
        refine Classical.byContradiction fun z => ?_
        rw [aget_none.mpr z] at hc
        cases hc
      refine ⟨F22, _, dt, aput tb2 y c', rfl, gz.step (fun a e => .inr (by rw [e]; exact ndt)) g020, gz.ext _ _ hl20, P20.mv gz pdt, U20.mv gz (U20.ne f20), ⟨_, h22, h21, ((E20.put hcv y).mv g21).mv g22, O20.put hy60 hcl, by rw [aput_len_has hym]; exact l2⟩⟩
    clear P6 U6 V6 g06 P7 U7 V7 g07 g7 hk1 fk1 E1
    rintro σ H8 ⟨F8, o, t2, tb2, rfl, g8, hl8, P8, U8, V8⟩
    have OU := U8.ok
    have OV := V8.ok
    walk_at "st"
    refine ⟨F8, t1, tb1, rfl, g8.sub, U8.f, fun c1 x1 ct1 F9 H9 g9 _ hc1 p1 s1 => ?_⟩
    have U9 : TabU F9 H9 t1 tb1 := U8.mv g9 fun z => z
    have V9 : TabU F9 H9 t2 tb2 := V8.mv g9 fun z => z
    walk_at "st"
    refine ⟨F9, t2, tb2, rfl, g9.sub, V9.f, fun c2 x2 ct2 F10 H10 g10 _ hc2 p2 s2 => ?_⟩
    have U10 : TabU F10 H10 t1 tb1 := U9.mv g10 fun z => z
    have V10 : TabU F10 H10 t2 tb2 := V9.mv g10 fun z => z
    have hc1 : F10 c1 = _ := g10.ext _ _ hc1
    have p1 : Paired (RowV F10) x1 ct1 := Paired.mapP p1 fun _ _ z => z.mono g10.ext
    have w1 := s1.ok OU.1
    have w2 := s2.ok OV.1
    have n1 : ct1.length ≤ 1000 := by
      rw [s1.2.length_eq]
      have := OU.2
      omega
    have n2 : ct2.length ≤ 1000 := by
      rw [s2.2.length_eq]
      have := OV.2
      omega
    have S10 : Sub F10 H10 := g10.sub
    clear U8 V8 U9 V9 P8 g8 g9 g10 hl8
    walk_at "st"
    refine ⟨F10, c1, x1, ct1, rfl, S10, hc1, p1, n1, fun e1 z1 F11 H11 g11 _ he1 r1 => ?_⟩
    walk_at "st"
    refine ⟨F11, c2, x2, ct2, rfl, g11.sub, g11.ext _ _ hc2, Paired.mapP p2 fun _ _ z => z.mono g11.ext, n2, fun e2 z2 F12 H12 g12 _ he2 r2 => ?_⟩
    have U12 : TabU F12 H12 t1 tb1 := (U10.mv g11 fun z => z).mv g12 fun z => z
    have V12 : TabU F12 H12 t2 tb2 := (V10.mv g11 fun z => z).mv g12 fun z => z
    have hc1 : F12 c1 = _ := g12.ext _ _ (g11.ext _ _ hc1)
    have hc2 : F12 c2 = _ := g12.ext _ _ (g11.ext _ _ hc2)
    have p1 : Paired (RowV F12) x1 ct1 := Paired.mapP p1 fun _ _ z => z.mono fun b o h => g12.ext b o (g11.ext b o h)
    have p2 : Paired (RowV F12) x2 ct2 := Paired.mapP p2 fun _ _ z => z.mono fun b o h => g12.ext b o (g11.ext b o h)
    have he1 : F12 e1 = _ := g12.ext _ _ he1
    have r1 : Paired (RowV F12) z1 ct1 := Paired.mapP r1 fun _ _ z => z.mono g12.ext
    have S12 : Sub F12 H12 := g12.sub
    clear U10 V10 g11 g12 S10
    walk_at "st"
    rename_i hd F13 H13 g13 h13
    refine ⟨F13, e1, e2, z1, z2, ct1, ct2, rfl, g13.sub, g13.ext _ _ he1, g13.ext _ _ he2, Paired.mapP r1 fun _ _ z => z.mono g13.ext, Paired.mapP r2 fun _ _ z => z.mono g13.ext, w1, w2, n1, n2, fun fo ys1 ws1 F14 H14 g14 _ hfo B1 pf1 => ?_⟩
    have gA : Mv N0 F12 H12 F14 H14 := g14.step (fun a z => z.elim) g13
    have h14 : F14 hd = _ := g14.ext _ _ h13
    have U14 : TabU F14 H14 t1 tb1 := U12.mv gA fun z => z
    have V14 : TabU F14 H14 t2 tb2 := V12.mv gA fun z => z
    have hc1 : F14 c1 = _ := gA.ext _ _ hc1
    have hc2 : F14 c2 = _ := gA.ext _ _ hc2
    have p1 : Paired (RowV F14) x1 ct1 := Paired.mapP p1 fun _ _ z => z.mono gA.ext
    have p2 : Paired (RowV F14) x2 ct2 := Paired.mapP p2 fun _ _ z => z.mono gA.ext
    have he1 : F14 e1 = _ := gA.ext _ _ he1
    have he2 : F14 e2 = _ := gA.ext _ _ he2
    have r1 : Paired (RowV F14) z1 ct1 := Paired.mapP r1 fun _ _ z => z.mono gA.ext
    have r2 : Paired (RowV F14) z2 ct2 := Paired.mapP r2 fun _ _ z => z.mono gA.ext
    have S14 : Sub F14 H14 := g14.sub
    clear U12 V12 g13 g14 gA S12 h13
    walk_at "st"
    rename_i hd2 F15 H15 g15 h15
    have dA : Df F15 (.ref hd) (.list [ctsD ct1, ctsD ct2]) := .lst (g15.ext _ _ h14) (.cons (Df.mono g15.ext (cts_df he1 r1)) (.cons (Df.mono g15.ext (cts_df he2 r2)) .nil))
    have dB : Df F15 (.ref hd2) (.list [ctsD ct1, ctsD ct2]) := .lst h15 (.cons (Df.mono g15.ext (cts_df hc1 p1)) (.cons (Df.mono g15.ext (cts_df hc2 p2)) .nil))
    refine z_neSame (dA.dp g15.sub) (dB.dp g15.sub) ?_ ?_
    · rw [PyData.depth]
      refine Nat.le_trans (Nat.succ_le_succ (depthAll_le (n := 3) fun d hd => ?_)) (by decide)
      simp only [List.mem_cons, List.not_mem_nil, or_false] at hd
      rcases hd with rfl | rfl <;> exact depth_cts _
    walk_at "st"
    have U15 : TabU F15 H15 t1 tb1 := U14.mv g15 fun z => z
    have V15 : TabU F15 H15 t2 tb2 := V14.mv g15 fun z => z
    refine ⟨F15, t1, t2, tb1, tb2, rfl, g15.sub, U15, V15, fun du ys2 ws2 F16 H16 g16 hdu B2 pd => ?_⟩
    have e12 : chgs ys1 ct1 ct2 = chgs ys2 tb1 tb2 := same_chgs B1 B2 s1 s2 OU.1.nd OV.1.nd
    have g46 : Mv N0 F14 H14 F16 H16 := g16.step (fun a z => z.elim) g15
    have dF : Df F16 (.ref fo) (chgsD (chgs ys2 tb1 tb2)) := by
      rw [← e12]
      exact Df.mono g46.ext (chgs_df hfo pf1)
    have l1000 : tb1.length ≤ 1000 ∧ tb2.length ≤ 1000 := by
      have := OU.2
      have := OV.2
      omega
    refine ⟨F16, _, _, _, rfl, g16.sub, dF, chgs_df hdu pd, Nat.lt_succ_of_le (depth_chgs _), wid_chgs B2 l1000.1 l1000.2 OV.1, fun F17 H17 g17 => ?_⟩
    have g47 : Mv N0 F14 H14 F17 H17 := g17.step (fun a z => z.elim) g46
    have U17 : TabU F17 H17 t1 tb1 := U14.mv g47 fun z => z
    have V17 : TabU F17 H17 t2 tb2 := V14.mv g47 fun z => z
    have hc1 : F17 c1 = _ := g47.ext _ _ hc1
    have hc2 : F17 c2 = _ := g47.ext _ _ hc2
    have p1 : Paired (RowV F17) x1 ct1 := Paired.mapP p1 fun _ _ z => z.mono g47.ext
    have p2 : Paired (RowV F17) x2 ct2 := Paired.mapP p2 fun _ _ z => z.mono g47.ext
    have S17 : Sub F17 H17 := g17.sub
    clear U14 V14 U15 V15 g15 g16 g17 g46 g47 S14 dA dB dF h14 h15 he1 he2 r1 r2 hdu pd hfo pf1
    walk_at "st"
    refine z_nb (fun e => by cases e) (fun _ => ?_)
    walk_at "st"
    refine ⟨F17, c1, x1, ct1, rfl, S17, hc1, p1, n1, fun e3 z3 F18 H18 g18 _ he3 r3 => ?_⟩
    walk_at "st"
    refine ⟨F18, c1, e3, x1, z3, ct1, ct1, rfl, g18.sub, g18.ext _ _ hc1, he3, Paired.mapP p1 fun _ _ z => z.mono g18.ext, r3, w1, w1, n1, n1, fun ch ys3 ws3 F19 H19 g19 _ hch B3 pc => ?_⟩
    rw [chgs_self B3] at pc
    cases pc
    walk_at "st"
    refine z_newL g19.sub (by walk_at "len") fun e4 F20 H20 g20 h20 => ?_
    refine z_eqSame (d := .list []) (Df.dp g20.sub (.lst (g20.ext _ _ hch) .nil)) (Df.dp g20.sub (.lst h20 .nil)) (by decide) ?_
    refine ⟨true, rfl, z_T ?_⟩
    have g70 : Mv N0 F17 H17 F20 H20 := g20.step (fun a z => z.elim) (g19.step (fun a z => z.elim) g18)
    have U20 : TabU F20 H20 t1 tb1 := U17.mv g70 fun z => z
    have V20 : TabU F20 H20 t2 tb2 := V17.mv g70 fun z => z
    walk_at "st"
    refine ⟨F20, c2, c1, x2, x1, ct2, ct1, rfl, g20.sub, g70.ext _ _ hc2, g70.ext _ _ hc1, Paired.mapP p2 fun _ _ z => z.mono g70.ext, Paired.mapP p1 fun _ _ z => z.mono g70.ext, w2, w1, n2, n1, fun ch2 ys4 ws4 F21 H21 g21 _ hch2 B4 pc2 => ?_⟩
    have U21 : TabU F21 H21 t1 tb1 := U20.mv g21 fun z => z
    have V21 : TabU F21 H21 t2 tb2 := V20.mv g21 fun z => z
    walk_at "st"
    refine ⟨F21, t2, t1, tb2, tb1, rfl, g21.sub, V21, U21, fun du2 ys5 ws5 F22 H22 g22 hdu2 B5 pd2 => ?_⟩
    have e21 : chgs ys4 ct2 ct1 = chgs ys5 tb2 tb1 := same_chgs B4 B5 s2 s1 OV.1.nd OU.1.nd
    have dF2 : Df F22 (.ref ch2) (chgsD (chgs ys5 tb2 tb1)) := by
      rw [← e21]
      exact Df.mono g22.ext (chgs_df hch2 pc2)
    exact ⟨F22, _, _, _, rfl, g22.sub, dF2, chgs_df hdu2 pd2, Nat.lt_succ_of_le (depth_chgs _), wid_chgs B5 l1000.2 l1000.1 OU.1, fun F23 H23 g23 => k H23⟩
end Cm
namespace Fin
open PySem PySem.Spec PySem.Calls L2 U Hd
theorem facts {w : World} {K : PySem.W.Frag} {h : Heap} {mg : Str → Option Value} {f : Addr} (X : K.In h) (G : h.Ns mainGlobals mg) (hfa : mg ("law" : Str) = some (.ref f)) (c : He.SaysT fa fn ts w K) :
    ∃ fd : FuncData, (∀ (s : Shared) (v : Value), BindsTo s fd ⟨[v], []⟩ [("_law_script", v)]) ∧ ∀ base : Heap, K.In base → base.Ns mainGlobals mg → FnOk (PySem.Challenge.rw_paritypool_k40_changes).prog w K mg base CX0 10 f fd ["_law_script"] (Cm.spLaw K) := by
  have T : Tx w K mg := ⟨c, h, X, G⟩
  obtain ⟨f', fd, F, hm⟩ := (df_law T).ex
  have e := hfa.symm.trans hm
  cases e
  have b := FunD.bindsA (ps := ["_law_script"]) F fun kV doc pm an cdv ct us hl => Cm.bd_law kV doc pm an cdv ct us hl
  exact ⟨fd, fun s v => b s [v] rfl, fun base _ _ => Cm.ok_law T F⟩
end Fin
open PySem PySem.W PySem.Calls PyProof.Rows
theorem PySem.Challenge.cw_paritypool_k40_changes_holds : PySem.Challenge.rw_paritypool_k40_changes.Holds := by
  w_on; o_law
  refine HandSHeadRun.head_any (r := OpenLaw.row PySem.Challenge.rw_paritypool_k40_changes) (q := view (OpenLaw.row PySem.Challenge.rw_paritypool_k40_changes).prog [32]) (H := Hd.hk) (ob := Hd.ob) (M := 8000) (loose := Hd.loose) (d := HandSHeadRun.topDef (OpenLaw.row PySem.Challenge.rw_paritypool_k40_changes).prog 32) (kwd := []) Hd.ob_eq
    (by kernel_rfl) (fun s => by kernel_rfl) Hd.run (by kernel_rfl) (by kernel_rfl) (by kernel_rfl) (by rfl) (by first | assumption | decide +kernel) (by decide +kernel) ⟨rfl, rfl, rfl, rfl, rfl, by decide +kernel⟩ ?hw ?hc
  case hw => w_witness2
  case hc =>
    refine L2.walk_ofE (l := PySem.Challenge.rw_paritypool_k40_changes) (n := 63) (k := 10) (x := "_law_script") (CX := L2.CX0) rfl (by decide) (by kernel_rfl) ⟨rfl, by decide, by decide⟩ ?F (fun _ _ _ _ z => z)
    intro w mg fa h Y G hmg0
    obtain ⟨K, KX, c⟩ := Y
    have hmg : mg ("law" : PySem.Str) = some (.ref fa) := by
      have e : (HandSHeadRun.topDef (OpenLaw.row PySem.Challenge.rw_paritypool_k40_changes).prog 32).name = ("law" : PySem.Str) := by kernel_rfl
      rw [← e]
      exact hmg0
    obtain ⟨fd, hb, hF⟩ := Fin.facts (w := w) KX G hmg c
    exact ⟨K, fd, Cm.spLaw K, KX, hb, fun H a ns hl _ hS => ⟨a, ns, rfl, hS, hl, fun _ => rfl⟩, hF⟩
