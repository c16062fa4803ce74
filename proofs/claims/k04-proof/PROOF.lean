import PyProof.Rows.All
import Wide.All
import OpenK.AllK
import Wide.FinOn
import PySem.Challenge.RW_printstack_k04_whole_brackets_without_a
import HandS.ForMost
import HandS.Deep
import HandS.Flow
import HandS.Exc
import HandS.ExcOwn
import HandS.Star
import HandS.TupAny
import HandS.Zip
import KE.GoesMore
import PyProof.StrLawsRepr
set_option Elab.async false
set_option linter.all false
set_option maxRecDepth 100000
/-! trees for Python's values, and what stands for them in the abstract heap -/
namespace TW
open PySem PySem.Spec PyProof.Rows L2

inductive D where
  | non | bl (b : Bool) | int (i : Int) | str (x : Str)
  | lst (xs : List D) | tup (xs : List D)
  /-- a list that is read only: the script, a list of the written part -/
  | rol (xs : List D)

abbrev AP := Addr → Prop

/-- the level of what lies within -/
def dn (n : Nat) : Nat := if n = 99 then 99 else n - 1
theorem dn_le (n : Nat) : dn n ≤ n := by
  unfold dn; split <;> omega
theorem dn_mono {m n : Nat} (h : m ≤ n) (hn : n ≤ 99) : dn m ≤ dn n := by
  unfold dn; split <;> split <;> omega

/-- the level of what lies within a tuple -/
def tn (n : Nat) : Nat := if n = 99 then 99 else 0
theorem tn_le (n : Nat) : tn n ≤ n := by
  unfold tn; split <;> omega
theorem tn_mono {m n : Nat} (h : m ≤ n) (hn : n ≤ 99) : tn m ≤ tn n := by
  unfold tn; split <;> split <;> omega
/-- a list of the written part -/
def KLs (K : PySem.W.Frag) (a : Addr) (xs : List V) : Prop :=
  ∃ (o : Obj) (its : Array Value) (n : Nat), K.lookup a = some o ∧ o.cls = .type "list" ∧ o.dict = none ∧ o.data = .seq its n ∧ its.size ≤ sizeLine ∧ Vals xs its.toList

mutual
/-- v stands for d in H; S: the lists that are owned, down to the level n; P: what holds of the shared lists -/
inductive Rp (K : PySem.W.Frag) (H : Hp) : AP → Nat → List Addr → V → D → Prop
  | non {P n} : Rp K H P n [] .non .non
  | bl {P n} (b : Bool) : Rp K H P n [] (.bl b) (.bl b)
  | int {P n} (i : Int) : Rp K H P n [] (.int i) (.int i)
  | str {P n} (x : Str) : Rp K H P n [] (.str x) (.str x)
  | tup {P n S a vs ds} : SqT K H a vs → RpL K H P (tn n) S vs ds → Rp K H P n S (.ref a) (.tup ds)
  | rol {P a vs ds} : (Rd H a (.lst vs) ∧ P a ∨ KLs K a vs) → RpL K H P 0 [] vs ds → Rp K H P 0 [] (.ref a) (.rol ds)
  | sh {P a vs ds} : H a = some (.lst vs) → P a → RpL K H P 0 [] vs ds → Rp K H P 0 [] (.ref a) (.lst ds)
  | ow {P n S a vs ds} : n ≠ 0 → n ≤ 99 → H a = some (.lst vs) → RpL K H P (dn n) S vs ds → Rp K H P n (a :: S) (.ref a) (.lst ds)
inductive RpL (K : PySem.W.Frag) (H : Hp) : AP → Nat → List Addr → List V → List D → Prop
  | nil {P n} : RpL K H P n [] [] []
  | cons {P n S1 S2 v d vs ds} : Rp K H P n S1 v d → RpL K H P n S2 vs ds → RpL K H P n (S1 ++ S2) (v :: vs) (d :: ds)
end

/-- tuples never change -/
def isT : HO → Prop
  | .tup _ => True
  | .frz _ (.tup _) => True
  | _ => False
/-- what P or S tells of, and tuples, stays -/
def Keeps (P : AP) (S : List Addr) (H H' : Hp) : Prop := ∀ b o, H b = some o → (b ∈ S ∨ P b ∨ isT o) → H' b = some o
theorem Keeps.of_same {P : AP} {S : List Addr} {H H' : Hp} (h : Same H H') : Keeps P S H H' := fun b o e _ => h b o e
theorem Keeps.sub {P : AP} {S S' : List Addr} {H H' : Hp} (h : Keeps P S H H') (hs : ∀ a ∈ S', a ∈ S) : Keeps P S' H H' := fun b o e q => h b o e (q.imp (hs b) id)
theorem Keeps.sqT {K : PySem.W.Frag} {P : AP} {S : List Addr} {H H' : Hp} {a : Addr} {xs : List V} (h : Keeps P S H H') (q : SqT K H a xs) : SqT K H' a xs := by
  rcases q with (q | ⟨o, q⟩) | q
  · exact .inl (.inl (h _ _ q (.inr (.inr trivial))))
  · exact .inl (.inr ⟨o, h _ _ q (.inr (.inr trivial))⟩)
  · exact .inr q
theorem Keeps.rd {P : AP} {S : List Addr} {H H' : Hp} {a : Addr} {u : HO} (h : Keeps P S H H') (q : Rd H a u) (p : P a) : Rd H' a u := by
  rcases q with q | ⟨o, q⟩
  · exact .inl (h _ _ q (.inr (.inl p)))
  · exact .inr ⟨o, h _ _ q (.inr (.inl p))⟩

section
variable {K : PySem.W.Frag} {H H' : Hp}
mutual
/-- the frame: the heap changes elsewhere; P may be weakened -/
theorem Rp.frame : ∀ (d : D) {P P' : AP} {n : Nat} {S : List Addr} {v : V}, Rp K H P n S v d → Keeps P S H H' → (∀ a, P a → P' a) → Rp K H' P' n S v d
  | .non, _, _, _, _, _, h, k, w => by cases h; exact .non
  | .bl _, _, _, _, _, _, h, k, w => by cases h; exact .bl _
  | .int _, _, _, _, _, _, h, k, w => by cases h; exact .int _
  | .str _, _, _, _, _, _, h, k, w => by cases h; exact .str _
  | .tup ds, _, _, _, _, _, h, k, w => by
    cases h with
    | tup ht hl => exact .tup (k.sqT ht) (RpL.frame ds hl k w)
  | .rol ds, _, _, _, _, _, h, k, w => by
    cases h with
    | rol ha hl => exact .rol (ha.imp (fun ⟨q, p⟩ => ⟨k.rd q p, w _ p⟩) id) (RpL.frame ds hl k w)
  | .lst ds, _, _, _, _, _, h, k, w => by
    cases h with
    | sh ha hp hl => exact .sh (k _ _ ha (.inr (.inl hp))) (w _ hp) (RpL.frame ds hl k w)
    | ow h0 h1 ha hl => exact .ow h0 h1 (k _ _ ha (.inl List.mem_cons_self)) (RpL.frame ds hl (k.sub fun a h => List.mem_cons_of_mem _ h) w)
theorem RpL.frame : ∀ (ds : List D) {P P' : AP} {n : Nat} {S : List Addr} {vs : List V}, RpL K H P n S vs ds → Keeps P S H H' → (∀ a, P a → P' a) → RpL K H' P' n S vs ds
  | [], _, _, _, _, _, h, k, w => by cases h; exact .nil
  | d :: ds, _, _, _, _, _, h, k, w => by
    cases h with
    | cons h1 h2 => exact .cons (Rp.frame d h1 (k.sub fun a h => List.mem_append_left _ h) w) (RpL.frame ds h2 (k.sub fun a h => List.mem_append_right _ h) w)
end
mutual
/-- a lesser level: some of the owned lists are shared then -/
theorem Rp.weak : ∀ (d : D) {P P' : AP} {n m : Nat} {S : List Addr} {v : V}, Rp K H P n S v d → m ≤ n → n ≤ 99 → (∀ a, P a → P' a) → (∀ a ∈ S, P' a) → ∃ S', S'.Sublist S ∧ Rp K H P' m S' v d
  | .non, _, _, _, _, _, _, h, hm, hn, w, ws => by cases h; exact ⟨[], .refl _, .non⟩
  | .bl _, _, _, _, _, _, _, h, hm, hn, w, ws => by cases h; exact ⟨[], .refl _, .bl _⟩
  | .int _, _, _, _, _, _, _, h, hm, hn, w, ws => by cases h; exact ⟨[], .refl _, .int _⟩
  | .str _, _, _, _, _, _, _, h, hm, hn, w, ws => by cases h; exact ⟨[], .refl _, .str _⟩
  | .tup ds, _, _, _, _, _, _, h, hm, hn, w, ws => by
    cases h with
    | tup ht hl =>
      obtain ⟨S', s, q⟩ := RpL.weak ds hl (tn_mono hm hn) (Nat.le_trans (tn_le _) hn) w ws
      exact ⟨S', s, .tup ht q⟩
  | .rol ds, _, _, _, m, _, _, h, hm, hn, w, ws => by
    cases h with
    | rol ha hl =>
      obtain rfl : m = 0 := by omega
      obtain ⟨S', s, q⟩ := RpL.weak ds hl (Nat.le_refl 0) hn w ws
      obtain rfl : S' = [] := List.sublist_nil.mp s
      exact ⟨[], .refl _, .rol (ha.imp (fun ⟨q, p⟩ => ⟨q, w _ p⟩) id) q⟩
  | .lst ds, _, _, _, m, _, _, h, hm, hn, w, ws => by
    cases h with
    | sh ha hp hl =>
      obtain rfl : m = 0 := by omega
      obtain ⟨S', s, q⟩ := RpL.weak ds hl (Nat.le_refl 0) hn w ws
      obtain rfl : S' = [] := List.sublist_nil.mp s
      exact ⟨[], .refl _, .sh ha (w _ hp) q⟩
    | ow h0 h1 ha hl =>
      by_cases hz : m = 0
      · subst hz
        obtain ⟨S', s, q⟩ := RpL.weak (m := 0) ds hl (Nat.zero_le _) (Nat.le_trans (dn_le _) hn) w (fun a h => ws a (List.mem_cons_of_mem _ h))
        have e : S' = [] := RpL.nilS ds q
        subst e
        exact ⟨[], List.nil_sublist _, .sh ha (ws _ List.mem_cons_self) q⟩
      · obtain ⟨S', s, q⟩ := RpL.weak ds hl (dn_mono hm hn) (Nat.le_trans (dn_le _) hn) w (fun a h => ws a (List.mem_cons_of_mem _ h))
        exact ⟨_, s.cons_cons _, .ow hz (Nat.le_trans hm hn) ha q⟩
theorem RpL.weak : ∀ (ds : List D) {P P' : AP} {n m : Nat} {S : List Addr} {vs : List V}, RpL K H P n S vs ds → m ≤ n → n ≤ 99 → (∀ a, P a → P' a) → (∀ a ∈ S, P' a) → ∃ S', S'.Sublist S ∧ RpL K H P' m S' vs ds
  | [], _, _, _, _, _, _, h, hm, hn, w, ws => by cases h; exact ⟨[], .refl _, .nil⟩
  | d :: ds, _, _, _, _, _, _, h, hm, hn, w, ws => by
    cases h with
    | cons h1 h2 =>
      obtain ⟨S1, s1, q1⟩ := Rp.weak d h1 hm hn w (fun a h => ws a (List.mem_append_left _ h))
      obtain ⟨S2, s2, q2⟩ := RpL.weak ds h2 hm hn w (fun a h => ws a (List.mem_append_right _ h))
      exact ⟨_, s1.append s2, .cons q1 q2⟩
/-- at the level 0 nothing is owned -/
theorem Rp.nilS : ∀ (d : D) {P : AP} {S : List Addr} {v : V}, Rp K H P 0 S v d → S = []
  | .non, _, _, _, h => by cases h; rfl
  | .bl _, _, _, _, h => by cases h; rfl
  | .int _, _, _, _, h => by cases h; rfl
  | .str _, _, _, _, h => by cases h; rfl
  | .tup ds, _, _, _, h => by
    cases h with
    | tup ht hl => exact RpL.nilS ds hl
  | .rol ds, _, _, _, h => by
    cases h with
    | rol ha hl => exact RpL.nilS ds hl
  | .lst ds, _, _, _, h => by
    cases h with
    | sh ha hp hl => rfl
    | ow h0 h1 ha hl => exact absurd rfl h0
theorem RpL.nilS : ∀ (ds : List D) {P : AP} {S : List Addr} {vs : List V}, RpL K H P 0 S vs ds → S = []
  | [], _, _, _, h => by cases h; rfl
  | d :: ds, _, _, _, h => by
    cases h with
    | cons h1 h2 => rw [Rp.nilS d h1, RpL.nilS ds h2]; rfl
end
mutual
/-- a lesser level, with what is shared then told -/
theorem Rp.weakN : ∀ (d : D) {P : AP} {n m : Nat} {S : List Addr} {v : V}, Rp K H P n S v d → m ≤ n → n ≤ 99 → S.Nodup → ∃ S', S'.Sublist S ∧ Rp K H (fun a => P a ∨ a ∈ S ∧ a ∉ S') m S' v d
  | .non, _, _, _, _, _, h, hm, hn, nd => by cases h; exact ⟨[], .refl _, .non⟩
  | .bl _, _, _, _, _, _, h, hm, hn, nd => by cases h; exact ⟨[], .refl _, .bl _⟩
  | .int _, _, _, _, _, _, h, hm, hn, nd => by cases h; exact ⟨[], .refl _, .int _⟩
  | .str _, _, _, _, _, _, h, hm, hn, nd => by cases h; exact ⟨[], .refl _, .str _⟩
  | .tup ds, _, _, _, _, _, h, hm, hn, nd => by
    cases h with
    | tup ht hl =>
      obtain ⟨S', s, q⟩ := RpL.weakN ds hl (tn_mono hm hn) (Nat.le_trans (tn_le _) hn) nd
      exact ⟨S', s, .tup ht q⟩
  | .rol ds, P, _, m, _, _, h, hm, hn, nd => by
    cases h with
    | rol ha hl =>
      obtain rfl : m = 0 := by omega
      exact ⟨[], .refl _, .rol (ha.imp (fun ⟨q, p⟩ => ⟨q, .inl p⟩) id) (RpL.frame ds hl (fun _ _ e _ => e) fun _ p => .inl p)⟩
  | .lst ds, P, n, m, S, _, h, hm, hn, nd => by
    by_cases hz : m = 0
    · subst hz
      refine ⟨[], List.nil_sublist _, ?_⟩
      obtain ⟨S', s, q⟩ := Rp.weak (m := 0) (P' := fun a => P a ∨ a ∈ S ∧ a ∉ ([] : List Addr)) (.lst ds) h (Nat.zero_le _) hn (fun a p => .inl p) (fun a p => .inr ⟨p, by simp⟩)
      have e := Rp.nilS (.lst ds) q
      subst e
      exact q
    · cases h with
      | sh ha hp hl => exact absurd (Nat.le_zero.mp hm) hz
      | ow h0 h1 ha hl =>
        have nd' := List.nodup_cons.mp nd
        obtain ⟨S', s, q⟩ := RpL.weakN ds hl (dn_mono hm hn) (Nat.le_trans (dn_le _) hn) nd'.2
        refine ⟨_, s.cons_cons _, .ow hz (Nat.le_trans hm hn) ha (RpL.frame ds q (fun _ _ e _ => e) fun a p => p.imp id fun ⟨p1, p2⟩ => ⟨List.mem_cons_of_mem _ p1, fun hx => ?_⟩)⟩
        rcases List.mem_cons.mp hx with e | hx
        · exact nd'.1 (e ▸ p1)
        · exact p2 hx
theorem RpL.weakN : ∀ (ds : List D) {P : AP} {n m : Nat} {S : List Addr} {vs : List V}, RpL K H P n S vs ds → m ≤ n → n ≤ 99 → S.Nodup → ∃ S', S'.Sublist S ∧ RpL K H (fun a => P a ∨ a ∈ S ∧ a ∉ S') m S' vs ds
  | [], _, _, _, _, _, h, hm, hn, nd => by cases h; exact ⟨[], .refl _, .nil⟩
  | d :: ds, _, _, _, _, _, h, hm, hn, nd => by
    cases h with
    | cons h1 h2 =>
      obtain ⟨n1, n2, n3⟩ := List.nodup_append.mp nd
      obtain ⟨S1, s1, q1⟩ := Rp.weakN d h1 hm hn n1
      obtain ⟨S2, s2, q2⟩ := RpL.weakN ds h2 hm hn n2
      refine ⟨_, s1.append s2, .cons (Rp.frame d q1 (fun _ _ e _ => e) fun a p => p.imp id fun ⟨p1, p2⟩ => ⟨List.mem_append_left _ p1, fun hx => ?_⟩) (RpL.frame ds q2 (fun _ _ e _ => e) fun a p => p.imp id fun ⟨p1, p2⟩ => ⟨List.mem_append_right _ p1, fun hx => ?_⟩)⟩
      · rcases List.mem_append.mp hx with hx | hx
        · exact p2 hx
        · exact n3 a p1 a (s2.subset hx) rfl
      · rcases List.mem_append.mp hx with hx | hx
        · exact n3 a (s1.subset hx) a p1 rfl
        · exact p2 hx
end
mutual
/-- what is shared is tracked -/
theorem Rp.dom : ∀ (d : D) {P : AP} {n : Nat} {S : List Addr} {v : V}, Rp K H P n S v d → Rp K H (fun a => P a ∧ H a ≠ none) n S v d
  | .non, _, _, _, _, h => by cases h; exact .non
  | .bl _, _, _, _, _, h => by cases h; exact .bl _
  | .int _, _, _, _, _, h => by cases h; exact .int _
  | .str _, _, _, _, _, h => by cases h; exact .str _
  | .tup ds, _, _, _, _, h => by
    cases h with
    | tup ht hl => exact .tup ht (RpL.dom ds hl)
  | .rol ds, _, _, _, _, h => by
    cases h with
    | rol ha hl => exact .rol (ha.imp (fun ⟨q, p⟩ => ⟨q, p, by rcases q with q | ⟨o, q⟩ <;> simp [q]⟩) id) (RpL.dom ds hl)
  | .lst ds, _, _, _, _, h => by
    cases h with
    | sh ha hp hl => exact .sh ha ⟨hp, by simp [ha]⟩ (RpL.dom ds hl)
    | ow h0 h1 ha hl => exact .ow h0 h1 ha (RpL.dom ds hl)
theorem RpL.dom : ∀ (ds : List D) {P : AP} {n : Nat} {S : List Addr} {vs : List V}, RpL K H P n S vs ds → RpL K H (fun a => P a ∧ H a ≠ none) n S vs ds
  | [], _, _, _, _, h => by cases h; exact .nil
  | d :: ds, _, _, _, _, h => by
    cases h with
    | cons h1 h2 => exact .cons (Rp.dom d h1) (RpL.dom ds h2)
end
mutual
/-- at the level 99 all is owned: P does not matter -/
theorem Rp.all : ∀ (d : D) {P P' : AP} {S : List Addr} {v : V}, Rp K H P 99 S v d → Rp K H P' 99 S v d
  | .non, _, _, _, _, h => by cases h; exact .non
  | .bl _, _, _, _, _, h => by cases h; exact .bl _
  | .int _, _, _, _, _, h => by cases h; exact .int _
  | .str _, _, _, _, _, h => by cases h; exact .str _
  | .tup ds, _, _, _, _, h => by
    cases h with
    | tup ht hl => exact .tup ht (RpL.all ds hl)
  | .rol ds, _, _, _, _, h => by
    cases h
  | .lst ds, _, _, _, _, h => by
    cases h with
    | ow h0 h1 ha hl => exact .ow h0 h1 ha (RpL.all ds hl)
theorem RpL.all : ∀ (ds : List D) {P P' : AP} {S : List Addr} {vs : List V}, RpL K H P 99 S vs ds → RpL K H P' 99 S vs ds
  | [], _, _, _, _, h => by cases h; exact .nil
  | d :: ds, _, _, _, _, h => by
    cases h with
    | cons h1 h2 => exact .cons (Rp.all d h1) (RpL.all ds h2)
end
mutual
/-- what is owned is tracked as a list -/
theorem Rp.own : ∀ (d : D) {P : AP} {n : Nat} {S : List Addr} {v : V}, Rp K H P n S v d → ∀ a ∈ S, ∃ vs, H a = some (.lst vs)
  | .non, _, _, _, _, h => by cases h; intro a ha; cases ha
  | .bl _, _, _, _, _, h => by cases h; intro a ha; cases ha
  | .int _, _, _, _, _, h => by cases h; intro a ha; cases ha
  | .str _, _, _, _, _, h => by cases h; intro a ha; cases ha
  | .tup ds, _, _, _, _, h => by
    cases h with
    | tup ht hl => exact RpL.own ds hl
  | .rol ds, _, _, _, _, h => by
    cases h with
    | rol ha hl => intro a ha; cases ha
  | .lst ds, _, _, _, _, h => by
    cases h with
    | sh ha hp hl => intro a ha; cases ha
    | ow h0 h1 ha hl =>
      intro a hm
      rcases List.mem_cons.mp hm with rfl | hm
      · exact ⟨_, ha⟩
      · exact RpL.own ds hl a hm
theorem RpL.own : ∀ (ds : List D) {P : AP} {n : Nat} {S : List Addr} {vs : List V}, RpL K H P n S vs ds → ∀ a ∈ S, ∃ vs, H a = some (.lst vs)
  | [], _, _, _, _, h => by cases h; intro a ha; cases ha
  | d :: ds, _, _, _, _, h => by
    cases h with
    | cons h1 h2 =>
      intro a hm
      rcases List.mem_append.mp hm with hm | hm
      · exact Rp.own d h1 a hm
      · exact RpL.own ds h2 a hm
end
end

/-- shared, with nothing asked of the shared lists: what is read of a value -/
abbrev Ra (K : PySem.W.Frag) (H : Hp) (v : V) (d : D) : Prop := Rp K H (fun _ => True) 0 [] v d
abbrev RaL (K : PySem.W.Frag) (H : Hp) (vs : List V) (ds : List D) : Prop := RpL K H (fun _ => True) 0 [] vs ds
section
variable {K : PySem.W.Frag} {H H' : Hp} {P : AP} {n : Nat} {S : List Addr} {v : V} {vs : List V} {d : D} {ds : List D}
theorem Rp.ra (h : Rp K H P n S v d) (hn : n ≤ 99) : Ra K H v d := by
  obtain ⟨S', s, q⟩ := Rp.weak (m := 0) (P' := fun _ => True) d h (Nat.zero_le _) hn (fun _ _ => trivial) fun _ _ => trivial
  have e := Rp.nilS d q
  subst e
  exact q
theorem RpL.ra (h : RpL K H P n S vs ds) (hn : n ≤ 99) : RaL K H vs ds := by
  obtain ⟨S', s, q⟩ := RpL.weak (m := 0) (P' := fun _ => True) ds h (Nat.zero_le _) hn (fun _ _ => trivial) fun _ _ => trivial
  have e := RpL.nilS ds q
  subst e
  exact q
/-- shared, its owned lists among what P' tells of -/
theorem Rp.shared {P' : AP} (h : Rp K H P n S v d) (hn : n ≤ 99) (w : ∀ a, P a → P' a) (ws : ∀ a ∈ S, P' a) : Rp K H P' 0 [] v d := by
  obtain ⟨S', s, q⟩ := Rp.weak (m := 0) d h (Nat.zero_le _) hn w ws
  have e := Rp.nilS d q
  subst e
  exact q
theorem RpL.shared {P' : AP} (h : RpL K H P n S vs ds) (hn : n ≤ 99) (w : ∀ a, P a → P' a) (ws : ∀ a ∈ S, P' a) : RpL K H P' 0 [] vs ds := by
  obtain ⟨S', s, q⟩ := RpL.weak (m := 0) ds h (Nat.zero_le _) hn w ws
  have e := RpL.nilS ds q
  subst e
  exact q
theorem Rp.same (h : Rp K H P n S v d) (s : Same H H') : Rp K H' P n S v d := Rp.frame d h (.of_same s) fun _ p => p
theorem RpL.same (h : RpL K H P n S vs ds) (s : Same H H') : RpL K H' P n S vs ds := RpL.frame ds h (.of_same s) fun _ p => p
theorem Rp.wP {P' : AP} (h : Rp K H P n S v d) (w : ∀ a, P a → P' a) : Rp K H P' n S v d := Rp.frame d h (fun _ _ e _ => e) w
theorem RpL.wP {P' : AP} (h : RpL K H P n S vs ds) (w : ∀ a, P a → P' a) : RpL K H P' n S vs ds := RpL.frame ds h (fun _ _ e _ => e) w
theorem RpL.len : ∀ {ds : List D} {P : AP} {n : Nat} {S : List Addr} {vs : List V}, RpL K H P n S vs ds → vs.length = ds.length
  | [], _, _, _, _, h => by cases h; rfl
  | d :: ds, _, _, _, _, h => by
    cases h with
    | cons h1 h2 => simp [RpL.len h2]
/-- the list that is read -/
theorem Ra.lst {ds : List D} (h : Ra K H v (.lst ds)) : ∃ a vs, v = .ref a ∧ H a = some (.lst vs) ∧ RaL K H vs ds := by
  cases h with
  | sh ha hp hl => exact ⟨_, _, rfl, ha, hl⟩
theorem Ra.rol {ds : List D} (h : Ra K H v (.rol ds)) : ∃ a vs, v = .ref a ∧ SqL K H a vs ∧ RaL K H vs ds := by
  cases h with
  | rol ha hl =>
    refine ⟨_, _, rfl, ?_, hl⟩
    rcases ha with ⟨q, _⟩ | q
    · exact .inl q
    · exact .inr q
theorem Ra.tup {ds : List D} (h : Ra K H v (.tup ds)) : ∃ a vs, v = .ref a ∧ SqT K H a vs ∧ RaL K H vs ds := by
  cases h with
  | tup ht hl => exact ⟨_, _, rfl, ht, hl⟩
theorem Ra.int {i : Int} (h : Ra K H v (.int i)) : v = .int i := by cases h; rfl
theorem Ra.str {x : Str} (h : Ra K H v (.str x)) : v = .str x := by cases h; rfl
theorem Ra.bl {x : Bool} (h : Ra K H v (.bl x)) : v = .bl x := by cases h; rfl
theorem Ra.non (h : Ra K H v .non) : v = .non := by cases h; rfl
theorem RpL.get : ∀ {ds : List D} {P : AP} {S : List Addr} {vs : List V} {i : Nat} {d : D}, RpL K H P 0 S vs ds → ds[i]? = some d → ∃ v, vs[i]? = some v ∧ Rp K H P 0 [] v d
  | [], _, _, _, _, _, h, e => by simp at e
  | d :: ds, _, _, _, 0, _, h, e => by
    cases h with
    | cons h1 h2 =>
      simp at e; subst e
      have z := Rp.nilS d h1
      subst z
      exact ⟨_, rfl, h1⟩
  | d :: ds, _, _, _, i + 1, _, h, e => by
    cases h with
    | cons h1 h2 =>
      obtain ⟨v, e1, e2⟩ := RpL.get (i := i) h2 (by simpa using e)
      exact ⟨v, by simpa using e1, e2⟩
theorem RpL.append : ∀ {ds es : List D} {P : AP} {n : Nat} {S S' : List Addr} {vs us : List V}, RpL K H P n S vs ds → RpL K H P n S' us es → RpL K H P n (S ++ S') (vs ++ us) (ds ++ es)
  | [], _, _, _, _, _, _, _, h, h' => by cases h; exact h'
  | d :: ds, _, _, _, _, _, _, _, h, h' => by
    cases h with
    | cons h1 h2 =>
      rw [List.append_assoc]
      exact .cons h1 (RpL.append h2 h')
/-- each item of a shared row -/
theorem RpL.all0 : ∀ {ds : List D} {vs : List V}, vs.length = ds.length → (∀ (i : Nat) (v : V) (d : D), vs[i]? = some v → ds[i]? = some d → Rp K H P 0 [] v d) → RpL K H P 0 [] vs ds
  | [], [], _, _ => .nil
  | d :: ds, v :: vs, hl, h => by
    have := RpL.cons (h 0 v d rfl rfl) (RpL.all0 (ds := ds) (vs := vs) (by simpa using hl) fun i w e h1 h2 => h (i + 1) w e (by simpa using h1) (by simpa using h2))
    simpa using this
  | [], _ :: _, hl, _ => by simp at hl
  | _ :: _, [], hl, _ => by simp at hl
end
end TW

/-! the small language: what its terms are worth, over trees -/
namespace TW
open PySem PySem.Spec PyProof.Rows L2

/-! ### values -/
mutual
def D.py : D → PyData
  | .non => .none
  | .bl b => .bool b
  | .int i => .int i
  | .str x => .str x
  | .lst xs => .list (D.pyL xs)
  | .tup xs => .tuple (D.pyL xs)
  | .rol _ => .none
def D.pyL : List D → List PyData
  | [] => []
  | x :: xs => D.py x :: D.pyL xs
end
mutual
/-- Python's == -/
def D.eqv : D → D → Bool
  | .non, b => (match b with | .non => true | _ => false)
  | .bl a, b => (match b with | .bl b => a == b | .int j => (if a then 1 else 0) == j | _ => false)
  | .int i, b => (match b with | .int j => i == j | .bl b => i == (if b then 1 else 0) | _ => false)
  | .str x, b => (match b with | .str y => x == y | _ => false)
  | .lst xs, b => (match b with | .lst ys => D.eqvL xs ys | _ => false)
  | .tup xs, b => (match b with | .tup ys => D.eqvL xs ys | _ => false)
  | .rol _, _ => false
def D.eqvL : List D → List D → Bool
  | [], ys => (match ys with | [] => true | _ :: _ => false)
  | x :: xs, ys => (match ys with | [] => false | y :: ys => D.eqv x y && D.eqvL xs ys)
end
mutual
/-- texts within are of real signs, at most so deep -/
def D.okD : Nat → D → Bool
  | _, .non => true
  | _, .bl _ => true
  | _, .int _ => true
  | _, .str x => PyData.strOk x
  | n, .lst xs => n != 0 && D.okL (n - 1) xs
  | n, .tup xs => n != 0 && D.okL (n - 1) xs
  | _, .rol _ => false
def D.okL : Nat → List D → Bool
  | _, [] => true
  | n, x :: xs => D.okD n x && D.okL n xs
end
mutual
theorem D.okD_py : ∀ (d : D) (n : Nat), D.okD n d = true → d.py.canLay0 = true ∧ d.py.depth ≤ n
  | .non, n, _ => by simp [D.py, PyData.canLay0, PyData.depth]
  | .bl _, n, _ => by simp [D.py, PyData.canLay0, PyData.depth]
  | .int _, n, _ => by simp [D.py, PyData.canLay0, PyData.depth]
  | .str _, n, h => by simpa [D.py, PyData.canLay0, PyData.depth, D.okD] using h
  | .lst xs, n, h => by
    simp only [D.okD, Bool.and_eq_true, bne_iff_ne, ne_eq] at h
    obtain ⟨h1, h2⟩ := D.okL_py xs _ h.2
    simp only [D.py, PyData.canLay0, PyData.depth]
    exact ⟨h1, by omega⟩
  | .rol _, n, h => by simp [D.okD] at h
  | .tup xs, n, h => by
    simp only [D.okD, Bool.and_eq_true, bne_iff_ne, ne_eq] at h
    obtain ⟨h1, h2⟩ := D.okL_py xs _ h.2
    simp only [D.py, PyData.canLay0, PyData.depth]
    exact ⟨h1, by omega⟩
theorem D.okL_py : ∀ (ds : List D) (n : Nat), D.okL n ds = true → PyData.canLayAll0 (D.pyL ds) = true ∧ PyData.depthAll (D.pyL ds) ≤ n
  | [], n, _ => by simp [D.pyL, PyData.canLayAll0, PyData.depthAll]
  | d :: ds, n, h => by
    simp only [D.okL, Bool.and_eq_true] at h
    obtain ⟨h1, h2⟩ := D.okD_py d n h.1
    obtain ⟨h3, h4⟩ := D.okL_py ds n h.2
    simp only [D.pyL, PyData.canLayAll0, PyData.depthAll, h1, h3, Bool.and_self, true_and]
    omega
end
mutual
theorem D.eqv_py : ∀ (a b : D) (n : Nat), D.okD n a = true → D.okD n b = true → PyData.eqv a.py b.py = D.eqv a b
  | .non, b, n, h, k => by cases b <;> first | (simp [D.okD] at k; done) | simp [D.py, D.eqv, PyData.eqv]
  | .bl a, b, n, h, k => by cases b <;> first | (simp [D.okD] at k; done) | simp [D.py, D.eqv, PyData.eqv]
  | .int a, b, n, h, k => by cases b <;> first | (simp [D.okD] at k; done) | simp [D.py, D.eqv, PyData.eqv]
  | .str a, b, n, h, k => by cases b <;> first | (simp [D.okD] at k; done) | simp [D.py, D.eqv, PyData.eqv]
  | .rol _, b, n, h, k => by simp [D.okD] at h
  | .lst xs, b, n, h, k => by
    cases b <;> first | (simp [D.okD] at k; done) | simp [D.py, D.eqv, PyData.eqv]
    simp only [D.okD, Bool.and_eq_true] at h k
    exact D.eqv_pyL xs _ _ h.2 k.2
  | .tup xs, b, n, h, k => by
    cases b <;> first | (simp [D.okD] at k; done) | simp [D.py, D.eqv, PyData.eqv]
    simp only [D.okD, Bool.and_eq_true] at h k
    exact D.eqv_pyL xs _ _ h.2 k.2
theorem D.eqv_pyL : ∀ (a b : List D) (n : Nat), D.okL n a = true → D.okL n b = true → PyData.eqvAll (D.pyL a) (D.pyL b) = D.eqvL a b
  | [], b, n, h, k => by cases b <;> simp [D.pyL, D.eqvL, PyData.eqvAll]
  | x :: xs, b, n, h, k => by
    cases b with
    | nil => simp [D.pyL, D.eqvL, PyData.eqvAll]
    | cons y ys =>
      simp only [D.okL, Bool.and_eq_true] at h k
      simp [D.pyL, D.eqvL, PyData.eqvAll, D.eqv_py x y n h.1 k.1, D.eqv_pyL xs ys n h.2 k.2]
end
theorem D.shaped {d : D} (h : D.okD 64 d = true) : SeqAt.shaped d.py = true := by
  obtain ⟨h1, h2⟩ := D.okD_py d 64 h
  simp [SeqAt.shaped, h1, h2]
mutual
/-- intsD within are not too long for a text -/
def D.shw : D → Bool
  | .non => true
  | .bl _ => true
  | .int i => decide (i.natAbs.log2 < 1920)
  | .str _ => true
  | .lst xs => D.shwL xs
  | .tup xs => D.shwL xs
  | .rol _ => false
def D.shwL : List D → Bool
  | [] => true
  | x :: xs => D.shw x && D.shwL xs
end
mutual
theorem D.shw_py : ∀ d : D, D.shw d = true → d.py.showable = true ∧ d.py.hasDict = false
  | .non, _ => by simp [D.py, PyData.showable, PyData.hasDict]
  | .bl _, _ => by simp [D.py, PyData.showable, PyData.hasDict]
  | .int _, h => by simpa [D.py, PyData.showable, PyData.hasDict, D.shw] using h
  | .str _, _ => by simp [D.py, PyData.showable, PyData.hasDict]
  | .lst xs, h => by
    simp only [D.py, PyData.showable, PyData.hasDict]
    exact D.shwL_py xs (by simpa [D.shw] using h)
  | .rol _, h => by simp [D.shw] at h
  | .tup xs, h => by
    simp only [D.py, PyData.showable, PyData.hasDict]
    exact D.shwL_py xs (by simpa [D.shw] using h)
theorem D.shwL_py : ∀ ds : List D, D.shwL ds = true → PyData.showableAll (D.pyL ds) = true ∧ PyData.hasDictAll (D.pyL ds) = false
  | [], _ => by simp [D.pyL, PyData.showableAll, PyData.hasDictAll]
  | d :: ds, h => by
    simp only [D.shwL, Bool.and_eq_true] at h
    obtain ⟨h1, h2⟩ := D.shw_py d h.1
    obtain ⟨h3, h4⟩ := D.shwL_py ds h.2
    simp [D.pyL, PyData.showableAll, PyData.hasDictAll, h1, h2, h3, h4]
end
/-- the text that repr gives -/
def D.shown (d : D) : Str := d.py.shown

/-! ### answers -/
inductive R (α : Type) where
  | ok (a : α) | exc (c : Nat) (i : Int) | bad
def R.bind {α β : Type} (x : R α) (f : α → R β) : R β := match x with
  | .ok a => f a
  | .exc c i => .exc c i
  | .bad => .bad
def R.map {α β : Type} (f : α → β) (x : R α) : R β := x.bind fun a => .ok (f a)
theorem R.bind_ok {α β : Type} {a : α} {f : α → R β} : (R.ok a).bind f = f a := rfl
def R.ofO {α : Type} : Option α → R α
  | some a => .ok a
  | none => .bad
def R.iff (c : Bool) (d : D) : R D := if c then .ok d else .bad

abbrev LIM : Nat := 16777216
abbrev B62 : Int := 4611686018427387904
abbrev B64 : Int := 18446744073709551616

/-! ### operators -/
inductive BO where
  | add | sub | mul | fdiv | mod | pow
  deriving DecidableEq
inductive CO where
  | eq | ne | lt | le | gt | ge | isIn | notIn | isN | notN
  deriving DecidableEq
inductive B1 where
  | len | abs | int | repr | all | any | sum | lst | ltp | tup
  deriving DecidableEq
inductive B2 where
  | min | max
  deriving DecidableEq
inductive M1 where
  | join
  deriving DecidableEq

def repS (x : Str) (n : Int) : Str := ⟨(List.replicate n.toNat x.cps.toList).flatten.toArray⟩
def bin : BO → D → D → R D
  | .add, .int i, .int j => .ok (.int (i + j))
  | .add, .str x, .str y => R.iff (decide (x.length + y.length ≤ LIM)) (.str (x ++ y))
  | .add, .lst x, .lst y => R.iff (decide (x.length + y.length ≤ LIM)) (.lst (x ++ y))
  | .sub, .int i, .int j => .ok (.int (i - j))
  | .mul, .int i, .int j => R.iff (decide (-B64 < i ∧ i < B64) || decide (-B64 < j ∧ j < B64)) (.int (i * j))
  | .mul, .lst x, .int n => R.iff (decide (-B62 ≤ n ∧ n < B62) && decide (x.length * n.toNat ≤ LIM)) (.lst (List.replicate n.toNat x).flatten)
  | .mul, .str x, .int n => R.iff (decide (-B62 ≤ n ∧ n < B62) && decide (x.length * n.toNat ≤ LIM)) (.str (repS x n))
  | .fdiv, .int i, .int j => R.iff (decide (j ≠ 0 ∧ j.natAbs < 1073741824)) (.int (i.fdiv j))
  | .mod, .int i, .int j => R.iff (decide (j ≠ 0)) (.int (i.fmod j))
  | .pow, .int i, .int j => R.iff (decide (0 ≤ j ∧ j ≤ 1000000 ∧ i.natAbs < 18446744073709551616)) (.int (i ^ j.toNat))
  | _, _, _ => .bad
def strLt (x y : Str) : Bool := decide (x.cps.toList < y.cps.toList)
def ordD (f : Int → Int → Bool) (g : Str → Str → Bool) : D → D → R D
  | .int i, .int j => .ok (.bl (f i j))
  | .str x, .str y => .ok (.bl (g x y))
  | _, _ => .bad
def flat : D → Bool
  | .non => true
  | .bl _ => true
  | .int _ => true
  | .str _ => true
  | _ => false
def inD (x : D) : D → R Bool
  | .lst ds => if D.okD 60 x && D.okL 60 ds then .ok (ds.any fun z => D.eqv z x) else .bad
  | .tup ds => if flat x && ds.all flat then .ok (ds.any fun z => D.eqv z x) else .bad
  | .str z => (match x with
    | .str c => (match c.cps.toList with
      | [c] => .ok (decide (c ∈ z.cps.toList))
      | _ => .bad)
    | _ => .bad)
  | _ => .bad
def isNon : D → Bool
  | .non => true
  | _ => false
def cmp : CO → D → D → R D
  | .eq, a, b => R.iff ((flat a && flat b) || (D.okD 64 a && D.okD 64 b)) (.bl (D.eqv a b))
  | .ne, a, b => R.iff ((flat a && flat b) || (D.okD 64 a && D.okD 64 b)) (.bl (!D.eqv a b))
  | .lt, a, b => ordD (fun i j => decide (i < j)) strLt a b
  | .le, a, b => ordD (fun i j => decide (i ≤ j)) (fun x y => !strLt y x) a b
  | .gt, a, b => ordD (fun i j => decide (j < i)) (fun x y => strLt y x) a b
  | .ge, a, b => ordD (fun i j => decide (j ≤ i)) (fun x y => !strLt x y) a b
  | .isIn, a, b => (inD a b).map .bl
  | .notIn, a, b => (inD a b).map fun c => .bl (!c)
  | .isN, a, b => if isNon b then .ok (.bl (isNon a)) else .bad
  | .notN, a, b => if isNon b then .ok (.bl (!isNon a)) else .bad
/-- truth -/
def tru : D → R Bool
  | .non => .ok false
  | .bl b => .ok b
  | .int i => .ok (i != 0)
  | .str x => if x.length ≤ LIM then .ok ((x.length : Int) != 0) else .bad
  | .lst xs => .ok (!xs.isEmpty)
  | .tup xs => .ok (!xs.isEmpty)
  | .rol xs => .ok (!xs.isEmpty)
def sign (c : Nat) : Str := ⟨#[c]⟩
def idx : D → D → R D
  | .lst xs, .int i => .ofO (atI xs i)
  | .tup xs, .int i => .ofO (atI xs i)
  | .rol xs, .int i => .ofO (atI xs i)
  | .str z, .int i => if z.length ≤ LIM then .ofO ((atI z.cps.toList i).map fun c => .str (sign c)) else .bad
  | _, _ => .bad
def cutL {α : Type} (xs : List α) (lo hi : Option Int) : List α := (xs.drop (HT.sIx xs.length 0 lo)).take (HT.sIx xs.length xs.length hi - HT.sIx xs.length 0 lo)
def slc : D → Option Int → Option Int → R D
  | .lst xs, lo, hi => .ok (.lst (cutL xs lo hi))
  | .str z, lo, hi => if z.length ≤ LIM then .ok (.str ⟨(cutL z.cps.toList lo hi).toArray⟩) else .bad
  | _, _, _ => .bad
def bools : List D → Option (List Bool)
  | [] => some []
  | .bl b :: r => (bools r).map (b :: ·)
  | _ => none
def intsD : List D → Option (List Int)
  | [] => some []
  | .int i :: r => (intsD r).map (i :: ·)
  | _ => none
def strsD : List D → Option (List Str)
  | [] => some []
  | .str x :: r => (strsD r).map (x :: ·)
  | _ => none
def call1 : B1 → D → R D
  | .len, .lst xs => .ok (.int xs.length)
  | .len, .tup xs => .ok (.int xs.length)
  | .len, .rol xs => .ok (.int xs.length)
  | .len, .str x => if x.length ≤ LIM then .ok (.int x.length) else .bad
  | .abs, .int i => .ok (.int (if i < 0 then -i else i))
  | .int, .int i => .ok (.int i)
  | .int, .bl b => .ok (.int (if b then 1 else 0))
  | .repr, d => R.iff (D.okD 60 d && D.shw d && decide ((D.shown d).length ≤ LIM)) (.str (D.shown d))
  | .all, .lst xs => .ofO ((bools xs).map fun bs => .bl (bs.all id))
  | .any, .lst xs => .ofO ((bools xs).map fun bs => .bl (bs.any id))
  | .sum, .lst xs => .ofO ((intsD xs).map fun is => .int is.sum)
  | .lst, .lst xs => .ok (.lst xs)
  | .ltp, .tup xs => .ok (.lst xs)
  | .tup, .lst xs => .ok (.tup xs)
  | .tup, .tup xs => .ok (.tup xs)
  | _, _ => .bad
def call2 : B2 → D → D → R D
  | .min, .int i, .int j => .ok (.int (if j < i then j else i))
  | .max, .int i, .int j => .ok (.int (if j > i then j else i))
  | _, _, _ => .bad
def mth : M1 → D → D → R D
  | .join, .str a, .lst xs => (match strsD xs with
    | some ys => if (ys.map (·.length)).sum + ys.length * a.length ≤ LIM then .ok (.str (Txt.join a ys)) else .bad
    | none => .bad)
  | _, _, _ => .bad

/-- may x be asked for the method? -/
def mthR : M1 → D → R Unit
  | .join, .str _ => .ok ()
  | _, _ => .bad

/-! ### terms -/
inductive C where
  | non | bl (b : Bool) | int (i : Int) | str (x : Str)
  deriving DecidableEq
def C.d : C → D
  | .non => .non
  | .bl b => .bl b
  | .int i => .int i
  | .str x => .str x
def C.v : C → V
  | .non => .non
  | .bl b => .bl b
  | .int i => .int i
  | .str x => .str x
inductive Tg where
  | v (i : Nat) | t (is : List Nat)
mutual
inductive E where
  | var (i : Nat) | cst (c : C) | glb (x : Str) (c : C)
  | bin (o : BO) (a b : E) | neg (a : E)
  | cmp (o : CO) (a b : E) | chn (o p : CO) (a b c : E)
  | and (e : E) (es : L) | or (e : E) (es : L) | not (a : E)
  | ife (c a b : E)
  | lst (es : L) | tup (es : L)
  | idx (a i : E) | slc (a : E) (lo hi : O)
  | c1 (f : B1) (a : E) | c2 (f : B2) (a b : E)
  | mth (m : M1) (a b : E)
  | fn (f : Nat) (x : Str) (es : L)
  | lc (own : List Nat) (tg : Tg) (it : I) (ifs : L) (e : E)
inductive L where
  | nil | cons (e : E) (es : L)
inductive I where
  | it (e : E) | rg1 (a : E) | rg2 (a b : E) | enum (e : E) | zip (a b : E)
inductive O where
  | no | so (e : E)
end
inductive S where
  | asg (i : Nat) (e : E) | asgT (is : List Nat) (e : E) | par (i j : Nat) (a b : E)
  | ex (e : E) | app (i : Nat) (e : E) | ext (i : Nat) (e : E) | pop (i : Nat) | popA (j i : Nat) | set (i : Nat) (k e : E)
  | ite (c : E) (a b : List S) | wh (A : List Nat) (c : E) (b : List S) | for (A : List Nat) (tg : Tg) (it : I) (b : List S)
  | ret (e : E) | retN | brk | cont | pass

/-! ### what they are worth -/
abbrev En := List (Option D)
abbrev Fs := Nat → List D → R D
def lk (ρ : En) (i : Nat) : R D := match ρ[i]? with
  | some (some d) => .ok d
  | _ => .bad
def wipeE (ρ : En) : List Nat → En
  | [] => ρ
  | v :: vs => (wipeE ρ vs).set v none
def setL (ρ : En) : List Nat → List D → R En
  | [], [] => .ok ρ
  | i :: is, d :: ds => setL (ρ.set i (some d)) is ds
  | _, _ => .bad
def bindT : Tg → D → En → R En
  | .v i, d, ρ => .ok (ρ.set i (some d))
  | .t is, .tup ds, ρ => setL ρ is ds
  | .t _, _, _ => .bad
/-- what a walk yields -/
def walk : D → R (List D)
  | .lst xs => .ok xs
  | .tup xs => .ok xs
  | .rol xs => .ok xs
  | .str z => .ok (z.cps.toList.map fun c => .str (sign c))
  | _ => .bad
def rngL (lo hi : Int) : List D := (List.range (hi - lo).toNat).map fun (k : Nat) => .int (lo + (k : Int))
def rngD : List D → R (List D)
  | [.int j] => if -B62 ≤ j ∧ j < B62 then .ok (rngL 0 j) else .bad
  | [.int i, .int j] => if -B62 ≤ i ∧ i < B62 ∧ -B62 ≤ j ∧ j < B62 then .ok (rngL i j) else .bad
  | _ => .bad
def enumL (xs : List D) : List D := xs.zipIdx.map fun p => .tup [.int p.2, p.1]
def enumD : D → R (List D)
  | .lst xs => .ok (enumL xs)
  | .str z => if z.length ≤ LIM then .ok (enumL (z.cps.toList.map fun c => .str (sign c))) else .bad
  | _ => .bad
def zipD : D → D → R (List D)
  | .lst xs, .lst ys => .ok (List.zipWith (fun x y => .tup [x, y]) xs ys)
  | _, _ => .bad
/-- nothing is raised here -/
def R.nox {α : Type} : R α → R α
  | .ok a => .ok a
  | _ => .bad
/-- the items that a comprehension makes -/
def lcGo (f : D → R (Option D)) : List D → R (List D)
  | [] => .ok []
  | x :: xs => (f x).nox.bind fun o => (lcGo f xs).bind fun ys => match o with
    | some y => if ys.length < LIM then .ok (y :: ys) else .bad
    | none => .ok ys
/-- a part of a slice -/
def part : D → R (Option Int)
  | .int i => .ok (some i)
  | _ => .bad
mutual
def evE (F : Fs) : E → En → R D
  | .var i, ρ => lk ρ i
  | .cst c, _ => .ok c.d
  | .glb _ c, _ => .ok c.d
  | .bin o a b, ρ => (evE F a ρ).bind fun x => (evE F b ρ).bind fun y => bin o x y
  | .neg a, ρ => (evE F a ρ).bind fun x => match x with
    | .int i => .ok (.int (-i))
    | _ => .bad
  | .cmp o a b, ρ => (evE F a ρ).bind fun x => (evE F b ρ).bind fun y => cmp o x y
  | .chn o p a b c, ρ => (evE F a ρ).bind fun x => (evE F b ρ).bind fun y => (cmp o x y).bind fun k => match k with
    | .bl true => (evE F c ρ).bind fun z => cmp p y z
    | .bl false => .ok (.bl false)
    | _ => .bad
  | .and e es, ρ => (evE F e ρ).bind fun x => evAnd F es ρ x
  | .or e es, ρ => (evE F e ρ).bind fun x => evOr F es ρ x
  | .not a, ρ => (evE F a ρ).bind fun x => (tru x).bind fun k => .ok (.bl (!k))
  | .ife c a b, ρ => (evE F c ρ).bind fun x => (tru x).bind fun k => if k then evE F a ρ else evE F b ρ
  | .lst es, ρ => (evL F es ρ).bind fun xs => if xs.length ≤ LIM then .ok (.lst xs) else .bad
  | .tup es, ρ => (evL F es ρ).bind fun xs => if xs.length ≤ LIM then .ok (.tup xs) else .bad
  | .idx a i, ρ => (evE F a ρ).bind fun x => (evE F i ρ).bind fun y => idx x y
  | .slc a lo hi, ρ => (evE F a ρ).bind fun x => (evO F lo ρ).bind fun l => (evO F hi ρ).bind fun h => slc x l h
  | .c1 f a, ρ => (evE F a ρ).bind fun x => call1 f x
  | .c2 f a b, ρ => (evE F a ρ).bind fun x => (evE F b ρ).bind fun y => call2 f x y
  | .mth m a b, ρ => (evE F a ρ).bind fun x => (mthR m x).bind fun _ => (evE F b ρ).bind fun y => mth m x y
  | .fn f _ es, ρ => (evL F es ρ).bind fun xs => F f xs
  | .lc own tg it ifs e, ρ => (evI F it ρ).bind fun xs => (lcGo (fun x => (bindT tg x (wipeE ρ own)).bind fun ρ' => (evIfs F ifs ρ').bind fun k => if k then (evE F e ρ').bind fun y => .ok (some y) else .ok none) xs).bind fun ys => .ok (.lst ys)
def evL (F : Fs) : L → En → R (List D)
  | .nil, _ => .ok []
  | .cons e es, ρ => (evE F e ρ).bind fun x => (evL F es ρ).bind fun xs => .ok (x :: xs)
def evAnd (F : Fs) : L → En → D → R D
  | .nil, _, x => .ok x
  | .cons e es, ρ, x => (tru x).bind fun k => if k then (evE F e ρ).bind fun y => evAnd F es ρ y else .ok x
def evOr (F : Fs) : L → En → D → R D
  | .nil, _, x => .ok x
  | .cons e es, ρ, x => (tru x).bind fun k => if k then .ok x else (evE F e ρ).bind fun y => evOr F es ρ y
/-- the tests of a comprehension: none or one -/
def evIfs (F : Fs) : L → En → R Bool
  | .nil, _ => .ok true
  | .cons e es, ρ => (evE F e ρ).bind fun x => match es with
    | .nil => tru x
    | .cons _ _ => .bad
def evO (F : Fs) : O → En → R (Option Int)
  | .no, _ => .ok none
  | .so e, ρ => (evE F e ρ).bind part
def evI (F : Fs) : I → En → R (List D)
  | .it e, ρ => (evE F e ρ).bind walk
  | .rg1 a, ρ => (evE F a ρ).bind fun x => rngD [x]
  | .rg2 a b, ρ => (evE F a ρ).bind fun x => (evE F b ρ).bind fun y => rngD [x, y]
  | .enum e, ρ => (evE F e ρ).bind enumD
  | .zip a b, ρ => (evE F a ρ).bind fun x => (evE F b ρ).bind fun y => zipD x y
end
end TW

/-! the operators by values: what the layer's rules give for trees -/
namespace TW
open PySem PySem.Spec PyProof.Rows L2

/-- v, whose items are shared among P: at most its root is owned -/
def Rc (K : PySem.W.Frag) (H : Hp) (P : AP) (v : V) (d : D) : Prop := ∃ m S, m ≤ 1 ∧ Rp K H P m S v d
/-- what is wanted of a value d that is made at H, at the level n -/
def Po (K : PySem.W.Frag) (H : Hp) (P : AP) (n : Nat) (d : D) (Q : VK) : Prop :=
  ∀ v H' S, Same H H' → S.Nodup → (∀ a ∈ S, H a = none) → Rp K H' (fun a => (P a ∨ H a = none) ∧ a ∉ S) n S v d → Q v H'
def PoA (K : PySem.W.Frag) (H : Hp) (d : D) (Q : VK) : Prop := ∀ v H', Same H H' → Ra K H' v d → Q v H'

section
variable {K : PySem.W.Frag} {H H' H1 : Hp} {P P' : AP} {v : V} {d : D} {n m : Nat} {Q : VK}
theorem Rc.same (h : Rc K H P v d) (s : Same H H') : Rc K H' P v d := by
  obtain ⟨m, S, hm, h⟩ := h
  exact ⟨m, S, hm, h.same s⟩
theorem Rc.wP (h : Rc K H P v d) (w : ∀ a, P a → P' a) : Rc K H P' v d := by
  obtain ⟨m, S, hm, h⟩ := h
  exact ⟨m, S, hm, h.wP w⟩
theorem Rc.ra (h : Rc K H P v d) : Ra K H v d := by
  obtain ⟨m, S, hm, h⟩ := h
  exact h.ra (by omega)
theorem dn1 : dn 1 = 0 := rfl
theorem dn0 : dn 0 = 0 := rfl
/-- the items of a list -/
theorem Rc.items {ds : List D} (h : Rc K H P v (.lst ds)) : ∃ a vs, v = .ref a ∧ H a = some (.lst vs) ∧ RpL K H P 0 [] vs ds := by
  obtain ⟨m, S, hm, h⟩ := h
  cases h with
  | sh ha hp hl => exact ⟨_, _, rfl, ha, hl⟩
  | ow h0 h1 ha hl =>
    obtain rfl : m = 1 := by omega
    rw [dn1] at hl
    have e := RpL.nilS ds hl
    rw [e] at hl
    exact ⟨_, _, rfl, ha, hl⟩
theorem tn0 {m : Nat} (h : m ≤ 1) : tn m = 0 := by
  unfold tn; split <;> omega
theorem Rc.tupI {ds : List D} (h : Rc K H P v (.tup ds)) : ∃ a vs, v = .ref a ∧ SqT K H a vs ∧ RpL K H P 0 [] vs ds := by
  obtain ⟨m, S, hm, h⟩ := h
  cases h with
  | tup ht hl =>
    rw [tn0 hm] at hl
    have e := RpL.nilS ds hl
    subst e
    exact ⟨_, _, rfl, ht, hl⟩
theorem Rp.tup0 {a : Addr} {vs : List V} {ds : List D} (ht : SqT K H a vs) (hl : RpL K H P 0 [] vs ds) : Rp K H P 0 [] (.ref a) (.tup ds) := .tup ht hl
theorem Po.mono (h : Po K H P n d Q) (s : Same H H1) : Po K H1 (fun a => P a ∨ H a = none) n d Q := fun v H' S s' nd fr r =>
  h v H' S (s.trans s') nd (fun a ha => s.free (fr a ha)) (r.wP fun a ⟨p, q⟩ => ⟨p.elim id fun z => .inr (s.free z), q⟩)
theorem Po.wP (h : Po K H P' n d Q) (w : ∀ a, P a → P' a ∨ H a = none) : Po K H P n d Q := fun v H' S s' nd fr r =>
  h v H' S s' nd fr (r.wP fun a ⟨p, q⟩ => ⟨p.elim (w a) .inr, q⟩)
theorem Po.at (h : Po K H P n d Q) (r : Rp K H (fun _ => False) n [] v d) : Q v H :=
  h v H [] (Same.refl H) .nil (fun _ z => nomatch z) (r.wP fun _ z => z.elim)
theorem Po.int {i : Int} (h : Po K H P n (.int i) Q) : Q (.int i) H := h.at (.int i)
theorem Po.str {i : Str} (h : Po K H P n (.str i) Q) : Q (.str i) H := h.at (.str i)
theorem Po.bl {i : Bool} (h : Po K H P n (.bl i) Q) : Q (.bl i) H := h.at (.bl i)
theorem Po.non (h : Po K H P n .non Q) : Q .non H := h.at .non
/-- a value that stands already, shared -/
theorem Po.sh (h : Po K H P 0 d Q) (r : Rp K H P 0 [] v d) : Q v H :=
  h v H [] (Same.refl H) .nil (fun _ z => nomatch z) (r.wP fun _ z => ⟨.inl z, by simp⟩)
theorem same_upd {p : Addr} {o : HO} (h : H p = none) : Same H (upd H p o) := fun b x e => by
  rw [upd_ne (ne_of_none e h)]
  exact e
/-- a new list of shared items -/
theorem Po.lst1 {vs : List V} {ds : List D} (h : Po K H P 1 (.lst ds) Q) (r : RpL K H P 0 [] vs ds) : ∀ p, H p = none → Q (.ref p) (upd H p (.lst vs)) := fun p hp => by
  have r' := (RpL.dom ds r).same (same_upd (o := .lst vs) hp)
  refine h (.ref p) _ [p] (same_upd hp) (by simp) (fun a ha => by simp at ha; subst ha; exact hp) ?_
  have q : RpL K (upd H p (.lst vs)) (fun a => (P a ∨ H a = none) ∧ a ∉ [p]) (dn 1) [] vs ds := r'.wP fun a ⟨z, w⟩ => ⟨.inl z, by simp; rintro rfl; exact w hp⟩
  exact .ow (by decide) (by decide) upd_same q
/-- a new tuple -/
theorem Po.tup0 {vs : List V} {ds : List D} (h : Po K H P 0 (.tup ds) Q) (r : RpL K H P 0 [] vs ds) : ∀ p, H p = none → Q (.ref p) (upd H p (.tup vs)) := fun p hp => by
  have r' := r.same (same_upd (o := .tup vs) hp)
  refine h (.ref p) _ [] (same_upd hp) .nil (fun a ha => nomatch ha) ?_
  exact .tup (.inl (.inl upd_same)) (r'.wP fun a z => ⟨.inl z, by simp⟩)
end

theorem RpL.cons0 {K : PySem.W.Frag} {H : Hp} {P : AP} {v : V} {vs : List V} {d : D} {ds : List D} (h : RpL K H P 0 [] (v :: vs) (d :: ds)) : Rp K H P 0 [] v d ∧ RpL K H P 0 [] vs ds := by
  generalize e : ([] : List Addr) = S at h
  cases h with
  | cons h1 h2 =>
    have e1 := Rp.nilS d h1
    have e2 := RpL.nilS ds h2
    subst e1
    subst e2
    exact ⟨h1, h2⟩
theorem RpL.cons00 {K : PySem.W.Frag} {H : Hp} {P : AP} {v : V} {vs : List V} {d : D} {ds : List D} (h1 : Rp K H P 0 [] v d) (h2 : RpL K H P 0 [] vs ds) : RpL K H P 0 [] (v :: vs) (d :: ds) := RpL.cons (S1 := []) (S2 := []) h1 h2
theorem RpL.uncons {K : PySem.W.Frag} {H : Hp} {P : AP} {n : Nat} {S : List Addr} {vs : List V} {d : D} {ds : List D} (h : RpL K H P n S vs (d :: ds)) : ∃ v r, vs = v :: r := by
  cases h with
  | cons h1 h2 => exact ⟨_, _, rfl⟩
theorem RpL.unnil {K : PySem.W.Frag} {H : Hp} {P : AP} {n : Nat} {S : List Addr} {vs : List V} (h : RpL K H P n S vs []) : vs = [] := by
  cases h with
  | nil => rfl
mutual
theorem Ra.dp {K : PySem.W.Frag} {H : Hp} : ∀ (d : D) {v : V} {n : Nat}, Ra K H v d → D.okD n d = true → Dp K H v d.py
  | .non, _, _, h, _ => by cases h; simp only [D.py]; exact .non
  | .bl _, _, _, h, _ => by cases h; simp only [D.py]; exact .bl _
  | .int _, _, _, h, _ => by cases h; simp only [D.py]; exact .int _
  | .str _, _, _, h, _ => by cases h; simp only [D.py]; exact .str _
  | .rol _, _, _, h, k => by simp [D.okD] at k
  | .lst ds, _, n, h, k => by
    obtain ⟨a, vs, rfl, ha, hl⟩ := Ra.lst h
    simp only [D.okD, Bool.and_eq_true] at k
    simp only [D.py]
    exact .lst (SqL.of ha) (RaL.dp ds hl k.2)
  | .tup ds, _, n, h, k => by
    obtain ⟨a, vs, rfl, ha, hl⟩ := Ra.tup h
    simp only [D.okD, Bool.and_eq_true] at k
    simp only [D.py]
    exact .tup ha (RaL.dp ds hl k.2)
theorem RaL.dp {K : PySem.W.Frag} {H : Hp} : ∀ (ds : List D) {vs : List V} {n : Nat}, RaL K H vs ds → D.okL n ds = true → DpAll K H vs (D.pyL ds)
  | [], _, _, h, _ => by rw [RpL.unnil h]; simp only [D.pyL]; exact .nil
  | d :: ds, vs, n, h, k => by
    simp only [D.okL, Bool.and_eq_true] at k
    simp only [D.pyL]
    obtain ⟨v, r, rfl⟩ := RpL.uncons h
    obtain ⟨h1, h2⟩ := RpL.cons0 h
    exact .cons (Ra.dp d h1 k.1) (RaL.dp ds h2 k.2)
end

section
variable {X : Cx}
theorem PE.imp {e : Expr} {t t' : TE} (h : PE X e t) (w : ∀ σ H Q, t' σ H Q → t σ H Q) : PE X e t' := ⟨fun pins s σ H Q I q => h.run pins s σ H Q I (w σ H Q q)⟩
theorem PT.imp {e : Expr} {t t' : TT} (h : PT X e t) (w : ∀ σ H Q, t' σ H Q → t σ H Q) : PT X e t' := ⟨fun pins s σ H Q I q => h.run pins s σ H Q I (w σ H Q q)⟩
theorem PW.imp {e : Expr} {t t' : TT} (h : PW X e t) (w : ∀ σ H Q, t' σ H Q → t σ H Q) : PW X e t' := ⟨fun wh pins s σ H Q I q => h.run wh pins s σ H Q I (w σ H Q q)⟩
theorem PA.imp {e : List Expr} {t t' : TA} (h : PA X e t) (w : ∀ σ H Q, t' σ H Q → t σ H Q) : PA X e t' := ⟨fun pos pins s σ H Q I q => h.run pos pins s σ H Q I (w σ H Q q)⟩
theorem PS.imp {e : Stmt} {t t' : TS} (h : PS X e t) (w : ∀ D σ H, t' D σ H → t D σ H) : PS X e t' := ⟨fun pins s σ H D I q => h.run pins s σ H D I (w D σ H q)⟩
theorem PSs.imp {e : List Stmt} {t t' : TS} (h : PSs X e t) (w : ∀ D σ H, t' D σ H → t D σ H) : PSs X e t' := ⟨fun pins s σ H D I q => h.run pins s σ H D I (w D σ H q)⟩
theorem PI.imp {tg e : Expr} {t t' : TI} (h : PI X tg e t) (w : ∀ σ H R, t' σ H R → t σ H R) : PI X tg e t' := ⟨fun pins s σ H R I q => h.run pins s σ H R I (w σ H R q)⟩
theorem PI.or {tg e : Expr} {t t' : TI} (h : PI X tg e t) (h' : PI X tg e t') : PI X tg e (fun σ H R => t σ H R ∨ t' σ H R) := ⟨fun pins s σ H R I q => q.elim (h.run pins s σ H R I) (h'.run pins s σ H R I)⟩

theorem sizeLine_LIM : sizeLine = LIM := by unfold sizeLine; rfl

/-! ### str * int -/
theorem flat_rep (l : List Nat) : ∀ (k : Nat) (acc : Array Nat), List.foldl (fun x1 x2 => x1 ++ x2) acc (List.replicate k l.toArray) = acc ++ (List.replicate k l).flatten.toArray
  | 0, acc => by simp
  | k + 1, acc => by
    rw [List.replicate_succ, List.foldl_cons, flat_rep l k, List.replicate_succ, List.flatten_cons]
    simp
theorem repS_len (z : Str) (n : Int) : (repS z n).length = n.toNat * z.length := by
  unfold repS Str.length
  simp
theorem op_mulS : OpR X (binaryOp .Mult) (fun x y H Q => ∃ z n, x = .str z ∧ y = .int n ∧ -B62 ≤ n ∧ n < B62 ∧ z.length * n.toNat ≤ LIM ∧ Q (.str (repS z n)) H) := by
  intro pins s σ H x y v u Q I rx ry h
  obtain ⟨z, n, rfl, rfl, h1, h2, h3, q⟩ := h
  obtain ⟨t, rfl⟩ := rx
  obtain ⟨t', rfl⟩ := ry
  have hl : z.cps.toList.length = z.length := by simp [Str.length]
  have hT : z.length * n.toNat ≤ sizeLine := by rw [sizeLine_LIM]; exact h3
  refine P.mul_str ?_ ?_ ?_ ?_
  · rw [decide_eq_false (by unfold B62 at *; omega), decide_eq_false (by unfold B62 at *; omega)]; rfl
  · intro hn _ hgt
    have h0 : (0 : Int) < n := by omega
    have : (z.length : Int) * n ≤ 2 ^ 63 - 1 := by
      have e : ((z.length * n.toNat : Nat) : Int) = (z.length : Int) * n := by
        rw [Int.natCast_mul, Int.toNat_of_nonneg (by omega)]
      have : ((z.length * n.toNat : Nat) : Int) ≤ ((16777216 : Nat) : Int) := Int.ofNat_le.mpr h3
      omega
    have := (Int.le_ediv_iff_mul_le h0).mpr this
    omega
  · intro _ _
    unfold Builtin.Str.tooLong
    exact decide_eq_false (by omega)
  · have em : z = ⟨z.cps.toList.toArray⟩ := by cases z; simp
    by_cases hn : n < 1
    · rw [if_pos hn]
      have e : repS z n = Str.empty := by
        unfold repS
        rw [show n.toNat = 0 by omega]
        rfl
      rw [e] at q
      exact ⟨by decide, ⟨.str _, H, I.tok _, ⟨_, rfl⟩, q⟩⟩
    · rw [if_neg hn]
      by_cases h1' : (n == 1 || z.length == 0) = true
      · rw [if_pos h1']
        have e : repS z n = z := by
          unfold repS
          simp only [Bool.or_eq_true, beq_iff_eq] at h1'
          rcases h1' with rfl | h0
          · simp
          · have hz : z.cps.toList = [] := List.eq_nil_of_length_eq_zero (hl.trans h0)
            rw [em, hz]
            simp
        rw [e] at q
        exact ⟨.str z, H, I, ⟨t, rfl⟩, q⟩
      · rw [if_neg h1']
        have e : (⟨List.foldl (fun x1 x2 => x1 ++ x2) #[] (List.replicate n.toNat z.cps)⟩ : Str) = repS z n := by
          unfold repS
          have := flat_rep z.cps.toList n.toNat #[]
          simp only [Array.toArray_toList] at this
          rw [this]
          simp
        rw [e]
        refine ⟨?_, ⟨.str _, H, I.tok _, ⟨_, rfl⟩, q⟩⟩
        rw [repS_len, Nat.mul_comm]
        exact hT

/-! ### repr -/
theorem call_repr (hg : X.A.guards = some []) (hu : X.A.units + 70 < cLine) : CallR X (.builtin "repr") (fun xs H Q => ∃ x d, xs = [x] ∧ Ra X.K H x d ∧ D.okD 60 d = true ∧ D.shw d = true ∧ (D.shown d).length ≤ LIM ∧ Q (.str (D.shown d)) H) := by
  intro pins s σ H xs us Q I r h
  obtain ⟨x, d, rfl, hx, hk, hs, hz, q⟩ := h
  obtain ⟨u, rfl, ru⟩ := vals1 r
  obtain ⟨s1, s2⟩ := D.shw_py d hs
  obtain ⟨c1, c2⟩ := D.okD_py d 60 hk
  have ref : ∀ a : Addr, x = .ref a → wpAny (model X.prog X.w) X.A (call (.builtin "repr") [u]) (EP X pins σ Q) X.xe s := fun a e => by
    subst e
    cases ru
    obtain ⟨as, rd⟩ := Dp.reads I d.py _ _ (Ra.dp d hx hk) rfl
    refine repr_of_reads' rd s1 (PyData.noDict_hsm s2) hg (by omega) (fun _ _ e => e) (fun h' u tk kp => ?_) (by rw [sizeLine_LIM]; exact hz)
    exact ⟨.str _, H, I.kept kp, ⟨_, rfl⟩, q⟩
  cases d with
  | lst ds => obtain ⟨a, _, e, _⟩ := Ra.lst hx; exact ref a e
  | tup ds => obtain ⟨a, _, e, _⟩ := Ra.tup hx; exact ref a e
  | rol ds => simp [D.okD] at hk
  | non =>
    obtain rfl := Ra.non hx
    cases ru
    exact P.repr_of_none ⟨.str _, H, I.tok _, ⟨_, rfl⟩, q⟩
  | bl b =>
    obtain rfl := Ra.bl hx
    cases ru
    exact P.repr_of_bool ⟨.str _, H, I.tok _, ⟨_, rfl⟩, q⟩
  | int i =>
    obtain rfl := Ra.int hx
    obtain ⟨t, rfl⟩ := ru
    exact P.repr_of_int (by simpa [D.shw] using hs) ⟨.str _, H, I.tok _, ⟨_, rfl⟩, q⟩
  | str z =>
    obtain rfl := Ra.str hx
    obtain ⟨t, rfl⟩ := ru
    exact P.repr_of_str ⟨.str _, H, I.tok _, ⟨_, rfl⟩, q⟩ (by rw [sizeLine_LIM]; exact hz)

/-! ### operators -/
def rBin (K : PySem.W.Frag) (o : BO) : R2 := fun x y H Q => ∃ P a b d, Rc K H P x a ∧ Rc K H P y b ∧ bin o a b = .ok d ∧ Po K H P 1 d Q
def opOf : BO → Operator
  | .add => .Add | .sub => .Sub | .mul => .Mult | .fdiv => .FloorDiv | .mod => .Mod | .pow => .Pow
theorem R.iff_ok {c : Bool} {d e : D} (h : R.iff c d = .ok e) : c = true ∧ d = e := by
  unfold R.iff at h
  split at h
  · cases h; exact ⟨by assumption, rfl⟩
  · cases h
theorem rc_int {K : PySem.W.Frag} {H : Hp} {P : AP} {v : V} {i : Int} (h : Rc K H P v (.int i)) : v = .int i := Ra.int h.ra
theorem rc_str {K : PySem.W.Frag} {H : Hp} {P : AP} {v : V} {i : Str} (h : Rc K H P v (.str i)) : v = .str i := Ra.str h.ra
theorem rc_bl {K : PySem.W.Frag} {H : Hp} {P : AP} {v : V} {i : Bool} (h : Rc K H P v (.bl i)) : v = .bl i := Ra.bl h.ra
theorem RpL.rep {K : PySem.W.Frag} {H : Hp} {P : AP} {vs : List V} {ds : List D} (h : RpL K H P 0 [] vs ds) : ∀ k : Nat, RpL K H P 0 [] (List.replicate k vs).flatten (List.replicate k ds).flatten
  | 0 => by simpa using RpL.nil
  | k + 1 => by
    rw [List.replicate_succ, List.replicate_succ, List.flatten_cons, List.flatten_cons]
    exact RpL.append (S := []) (S' := []) h (RpL.rep h k)
theorem op_bin (o : BO) : OpR X (binaryOp (opOf o)) (rBin X.K o) := by
  intro pins s σ H x y v u Q I rx ry h
  obtain ⟨P, a, b, d, ha, hb, e, q⟩ := h
  cases o <;> simp only [opOf] <;> cases a <;> cases b <;> simp only [bin, reduceCtorEq] at e
  · cases e
    exact op_add pins s σ H x y v u Q I rx ry ⟨_, _, rc_int ha, rc_int hb, q.int⟩
  · obtain ⟨c, rfl⟩ := R.iff_ok e
    exact op_add_str pins s σ H x y v u Q I rx ry ⟨_, _, rc_str ha, rc_str hb, by rw [sizeLine_LIM]; exact of_decide_eq_true c, q.str⟩
  · obtain ⟨c, rfl⟩ := R.iff_ok e
    obtain ⟨p1, v1, e1, h1, l1⟩ := ha.items
    obtain ⟨p2, v2, e2, h2, l2⟩ := hb.items
    have c := of_decide_eq_true c
    exact op_cat pins s σ H x y v u Q I rx ry ⟨p1, p2, v1, v2, e1, e2, h1, h2, by rw [sizeLine_LIM, l1.len, l2.len]; exact c, q.lst1 (RpL.append (S := []) (S' := []) l1 l2)⟩
  · cases e
    exact op_sub pins s σ H x y v u Q I rx ry ⟨_, _, rc_int ha, rc_int hb, q.int⟩
  · obtain ⟨c, rfl⟩ := R.iff_ok e
    refine op_mul pins s σ H x y v u Q I rx ry ⟨_, _, rc_int ha, rc_int hb, ?_, q.int⟩
    simp only [Bool.or_eq_true, decide_eq_true_eq] at c
    exact c
  · obtain ⟨c, rfl⟩ := R.iff_ok e
    simp only [Bool.and_eq_true, decide_eq_true_eq] at c
    exact op_mulS pins s σ H x y v u Q I rx ry ⟨_, _, rc_str ha, rc_int hb, c.1.1, c.1.2, c.2, q.str⟩
  · obtain ⟨c, rfl⟩ := R.iff_ok e
    simp only [Bool.and_eq_true, decide_eq_true_eq] at c
    obtain ⟨p1, v1, e1, h1, l1⟩ := ha.items
    refine op_rep pins s σ H x y v u Q I rx ry ⟨p1, _, v1, e1, rc_int hb, h1, ?_, ?_, by rw [sizeLine_LIM, l1.len]; exact c.2, q.lst1 (RpL.rep l1 _)⟩
    · have := c.1.1; unfold B62 at this; omega
    · have := c.1.2; unfold B62 at this; omega
  · obtain ⟨c, rfl⟩ := R.iff_ok e
    have c := of_decide_eq_true c
    exact op_fdivN pins s σ H x y v u Q I rx ry ⟨_, _, rc_int ha, rc_int hb, c, q.int⟩
  · obtain ⟨c, rfl⟩ := R.iff_ok e
    exact op_modN pins s σ H x y v u Q I rx ry ⟨_, _, rc_int ha, rc_int hb, of_decide_eq_true c, q.int⟩
  · obtain ⟨c, rfl⟩ := R.iff_ok e
    have c := of_decide_eq_true c
    exact op_pow pins s σ H x y v u Q I rx ry ⟨_, _, rc_int ha, rc_int hb, c, q.int⟩
/-! ### comparisons -/
def cmpOf : CO → CmpOp
  | .eq => .Eq | .ne => .NotEq | .lt => .Lt | .le => .LtE | .gt => .Gt | .ge => .GtE | .isIn => .In | .notIn => .NotIn | .isN => .Is | .notN => .IsNot
def rCmp (K : PySem.W.Frag) (o : CO) : R2 := fun x y H Q => ∃ a b d, Ra K H x a ∧ Ra K H y b ∧ cmp o a b = .ok d ∧ PoA K H d Q
theorem PoA.bl {K : PySem.W.Frag} {H : Hp} {Q : VK} {b : Bool} (h : PoA K H (.bl b) Q) : Q (.bl b) H := h _ H (Same.refl H) (Rp.bl b)
theorem PoA.mono {K : PySem.W.Frag} {H H1 : Hp} {Q : VK} {d : D} (h : PoA K H d Q) (s : Same H H1) : PoA K H1 d Q := fun v H' s' r => h v H' (s.trans s') r
def vOf : D → V
  | .non => .non | .bl b => .bl b | .int i => .int i | .str x => .str x | _ => .non
theorem ra_flat {K : PySem.W.Frag} {H : Hp} {v : V} {d : D} (h : Ra K H v d) (f : flat d = true) : v = vOf d := by
  cases d <;> simp only [flat, reduceCtorEq] at f
  · exact Ra.non h
  · exact Ra.bl h
  · exact Ra.int h
  · exact Ra.str h
theorem eqV_eqv : ∀ {a b : D}, flat a = true → flat b = true → eqV (vOf a) (vOf b) = D.eqv a b := by
  intro a b fa fb
  cases a <;> simp only [flat, reduceCtorEq] at fa <;> cases b <;> simp only [flat, reduceCtorEq] at fb <;> simp [vOf, eqV, D.eqv]
theorem flatV_of {a : D} (f : flat a = true) : flatV (vOf a) = true := by
  cases a <;> simp only [flat, reduceCtorEq] at f <;> rfl
theorem okD_flat {a : D} (f : flat a = true) (hs : ∀ x, a = .str x → PyData.strOk x = true) (n : Nat) : D.okD n a = true := by
  cases a <;> simp only [flat, reduceCtorEq] at f <;> simp [D.okD]
  exact hs _ rfl
theorem strange {a b : D} (f : flat a = true) (g : flat b = true) (h : (D.okD 64 a && D.okD 64 b) = false) : scal (vOf a) (vOf b) = true ∧ decide (vOf a = vOf b) = D.eqv a b := by
  cases a <;> simp only [flat, reduceCtorEq] at f <;> cases b <;> simp only [flat, reduceCtorEq] at g <;> simp [D.okD] at h <;> simp [vOf, scal, D.eqv]
  rw [Bool.eq_iff_iff]; simp
theorem eqAny {pins : List (Addr × Obj)} {s : Shared} {σ : L2.St} {H : Hp} {x y : V} {v u : Value} {Q : VK} {a b : D} (hu : X.A.units + 70 < cLine) (I : Inv X pins σ H s) (rx : RelV x v) (ry : RelV y u) (ha : Ra X.K H x a) (hb : Ra X.K H y b)
    (c : ((flat a && flat b) || (D.okD 64 a && D.okD 64 b)) = true) (q : Q (.bl (D.eqv a b)) H) : wpAny (model X.prog X.w) X.A (compareOp .Eq v u) (EP X pins σ Q) X.xe s := by
  cases k : (D.okD 64 a && D.okD 64 b) with
  | true =>
    simp only [Bool.and_eq_true] at k
    refine op_eqD (by omega) pins s σ H x y v u Q I rx ry ⟨_, _, Ra.dp a ha k.1, Ra.dp b hb k.2, D.shaped k.1, D.shaped k.2, ?_⟩
    rw [D.eqv_py a b 64 k.1 k.2]
    exact q
  | false =>
    rw [k, Bool.or_false, Bool.and_eq_true] at c
    obtain ⟨z1, z2⟩ := strange c.1 c.2 k
    have e1 := ra_flat ha c.1
    have e2 := ra_flat hb c.2
    subst e1
    subst e2
    exact op_eq pins s σ H _ _ v u Q I rx ry ⟨z1, by rw [z2]; exact q⟩
theorem neAny {pins : List (Addr × Obj)} {s : Shared} {σ : L2.St} {H : Hp} {x y : V} {v u : Value} {Q : VK} {a b : D} (hu : X.A.units + 70 < cLine) (I : Inv X pins σ H s) (rx : RelV x v) (ry : RelV y u) (ha : Ra X.K H x a) (hb : Ra X.K H y b)
    (c : ((flat a && flat b) || (D.okD 64 a && D.okD 64 b)) = true) (q : Q (.bl (!D.eqv a b)) H) : wpAny (model X.prog X.w) X.A (compareOp .NotEq v u) (EP X pins σ Q) X.xe s := by
  cases k : (D.okD 64 a && D.okD 64 b) with
  | true =>
    simp only [Bool.and_eq_true] at k
    refine op_neD (by omega) pins s σ H x y v u Q I rx ry ⟨_, _, Ra.dp a ha k.1, Ra.dp b hb k.2, D.shaped k.1, D.shaped k.2, ?_⟩
    rw [D.eqv_py a b 64 k.1 k.2]
    exact q
  | false =>
    rw [k, Bool.or_false, Bool.and_eq_true] at c
    obtain ⟨z1, z2⟩ := strange c.1 c.2 k
    have e1 := ra_flat ha c.1
    have e2 := ra_flat hb c.2
    subst e1
    subst e2
    exact op_ne pins s σ H _ _ v u Q I rx ry ⟨z1, by rw [z2]; exact q⟩
theorem RaL.flat {K : PySem.W.Frag} {H : Hp} : ∀ {ds : List D} {vs : List V}, RaL K H vs ds → ds.all flat = true → vs = ds.map vOf
  | [], _, h, _ => by rw [RpL.unnil h]; rfl
  | d :: ds, vs, h, f => by
    obtain ⟨v, r, rfl⟩ := RpL.uncons h
    obtain ⟨h1, h2⟩ := RpL.cons0 h
    simp only [List.all_cons, Bool.and_eq_true] at f
    rw [ra_flat h1 f.1, RaL.flat h2 f.2]
    rfl
theorem okD_le : ∀ (d : D) {n m : Nat}, D.okD n d = true → n ≤ m → D.okD m d = true := by
  intro d n m h hm
  exact okD_le' d h hm
where
  okD_le' : ∀ (d : D) {n m : Nat}, D.okD n d = true → n ≤ m → D.okD m d = true
    | .non, _, _, _, _ => rfl
    | .bl _, _, _, _, _ => rfl
    | .int _, _, _, _, _ => rfl
    | .str x, _, _, h, _ => by simpa [D.okD] using h
    | .rol _, _, _, h, _ => by simp [D.okD] at h
    | .lst xs, n, m, h, hm => by
      simp only [D.okD, Bool.and_eq_true, bne_iff_ne, ne_eq] at h ⊢
      exact ⟨by omega, okL_le xs h.2 (by omega)⟩
    | .tup xs, n, m, h, hm => by
      simp only [D.okD, Bool.and_eq_true, bne_iff_ne, ne_eq] at h ⊢
      exact ⟨by omega, okL_le xs h.2 (by omega)⟩
  okL_le : ∀ (ds : List D) {n m : Nat}, D.okL n ds = true → n ≤ m → D.okL m ds = true
    | [], _, _, _, _ => rfl
    | d :: ds, _, _, h, hm => by
      simp only [D.okL, Bool.and_eq_true] at h ⊢
      exact ⟨okD_le' d h.1 hm, okL_le ds h.2 hm⟩
theorem any_eqv : ∀ (ds : List D) (x : D) {n : Nat}, D.okD n x = true → D.okL n ds = true → ((D.pyL ds).any fun z => PyData.eqv z x.py) = ds.any fun z => D.eqv z x
  | [], _, _, _, _ => rfl
  | d :: ds, x, n, h, k => by
    simp only [D.okL, Bool.and_eq_true] at k
    simp only [D.pyL, List.any_cons, D.eqv_py d x n k.1 h, any_eqv ds x h k.2]
theorem inAny {pins : List (Addr × Obj)} {s : Shared} {σ : L2.St} {H : Hp} {x y : V} {v u : Value} {Q : VK} {a b : D} {c : Bool} (hu : X.A.units + 70 < cLine) (I : Inv X pins σ H s) (rx : RelV x v) (ry : RelV y u) (ha : Ra X.K H x a) (hb : Ra X.K H y b)
    (e : inD a b = .ok c) : (Q (.bl c) H → wpAny (model X.prog X.w) X.A (compareOp .In v u) (EP X pins σ Q) X.xe s) ∧ (Q (.bl (!c)) H → wpAny (model X.prog X.w) X.A (compareOp .NotIn v u) (EP X pins σ Q) X.xe s) := by
  cases b <;> simp only [inD, reduceCtorEq] at e
  · rename_i z
    cases a <;> simp only [reduceCtorEq] at e
    rename_i w
    obtain rfl := Ra.str ha
    obtain rfl := Ra.str hb
    split at e
    · rename_i c' ec
      cases e
      have ew : w = ⟨#[c']⟩ := by
        obtain ⟨w⟩ := w
        simp only at ec
        congr
        apply Array.ext'
        simpa using ec
      subst ew
      exact ⟨fun q => op_in_sign pins s σ H _ _ v u Q I rx ry ⟨c', z, rfl, rfl, q⟩, fun q => op_notIn_sign pins s σ H _ _ v u Q I rx ry ⟨c', z, rfl, rfl, q⟩⟩
    · cases e
  · rename_i ds
    split at e
    · rename_i k
      cases e
      simp only [Bool.and_eq_true] at k
      have k2 : D.okD 61 (.lst ds) = true := by simp only [D.okD, Bool.and_eq_true]; exact ⟨rfl, k.2⟩
      have hs : SeqAt.shaped a.py = true := D.shaped (okD_le a k.1 (by omega))
      have ht : SeqAt.shaped (D.py (.lst ds)) = true := D.shaped (okD_le (.lst ds) k2 (by omega))
      have d1 := Ra.dp a ha k.1
      have d2 := Ra.dp (.lst ds) hb k2
      simp only [D.py] at d2 ht
      refine ⟨fun q => op_inD (by omega) pins s σ H _ _ v u Q I rx ry ⟨_, _, d1, d2, hs, ht, ?_⟩, fun q => op_notInD (by omega) pins s σ H _ _ v u Q I rx ry ⟨_, _, d1, d2, hs, ht, ?_⟩⟩
      · rw [any_eqv ds a k.1 k.2]; exact q
      · rw [any_eqv ds a k.1 k.2]; exact q
    · cases e
  · rename_i ds
    split at e
    · rename_i k
      cases e
      simp only [Bool.and_eq_true] at k
      obtain ⟨p, vs, rfl, ht, hl⟩ := Ra.tup hb
      have e1 := ra_flat ha k.1
      have e2 := RaL.flat hl k.2
      subst e1
      subst e2
      have f1 := flatV_of k.1
      have f2 : (ds.map vOf).all flatV = true := by
        simp only [List.all_map, List.all_eq_true, Function.comp]
        intro z hz
        exact flatV_of (List.all_eq_true.mp k.2 z hz)
      have f3 : inV (vOf a) (ds.map vOf) = ds.any fun z => D.eqv z a := by
        unfold inV
        rw [List.any_map]
        apply Bool.eq_iff_iff.mpr
        simp only [List.any_eq_true, Function.comp]
        constructor
        · rintro ⟨z, hz, q⟩
          exact ⟨z, hz, by rw [← eqV_eqv (List.all_eq_true.mp k.2 z hz) k.1]; exact q⟩
        · rintro ⟨z, hz, q⟩
          exact ⟨z, hz, by rw [eqV_eqv (List.all_eq_true.mp k.2 z hz) k.1]; exact q⟩
      refine ⟨fun q => op_in_seq pins s σ H _ _ v u Q I rx ry ⟨p, _, rfl, .inr ht, f1, f2, ?_⟩, fun q => op_notIn_seq pins s σ H _ _ v u Q I rx ry ⟨p, _, rfl, .inr ht, f1, f2, ?_⟩⟩
      · rw [f3]; exact q
      · rw [f3]; exact q
    · cases e
theorem R.map_ok {α β : Type} {f : α → β} {x : R α} {b : β} (h : x.map f = .ok b) : ∃ a, x = .ok a ∧ f a = b := by
  cases x <;> simp only [R.map, R.bind, reduceCtorEq] at h
  exact ⟨_, rfl, by cases h; rfl⟩
theorem isNon_v {K : PySem.W.Frag} {H : Hp} {v : V} {d : D} (h : Ra K H v d) : decide (v = .non) = isNon d := by
  cases d with
  | non => rw [Ra.non h]; rfl
  | bl _ => rw [Ra.bl h]; rfl
  | int _ => rw [Ra.int h]; rfl
  | str _ => rw [Ra.str h]; rfl
  | lst _ => obtain ⟨a, _, rfl, _⟩ := Ra.lst h; rfl
  | tup _ => obtain ⟨a, _, rfl, _⟩ := Ra.tup h; rfl
  | rol _ => obtain ⟨a, _, rfl, _⟩ := Ra.rol h; rfl
theorem op_cmp (hu : X.A.units + 70 < cLine) (o : CO) : OpR X (compareOp (cmpOf o)) (rCmp X.K o) := by
  intro pins s σ H x y v u Q I rx ry h
  obtain ⟨a, b, d, ha, hb, e, q⟩ := h
  cases o <;> simp only [cmpOf] <;> simp only [cmp] at e
  · obtain ⟨c, rfl⟩ := R.iff_ok e
    exact eqAny hu I rx ry ha hb c q.bl
  · obtain ⟨c, rfl⟩ := R.iff_ok e
    exact neAny hu I rx ry ha hb c q.bl
  · cases a <;> cases b <;> simp only [ordD, reduceCtorEq] at e <;> cases e
    · exact op_lt pins s σ H x y v u Q I rx ry ⟨_, _, Ra.int ha, Ra.int hb, q.bl⟩
    · exact op_lt_str pins s σ H x y v u Q I rx ry ⟨_, _, Ra.str ha, Ra.str hb, q.bl⟩
  · cases a <;> cases b <;> simp only [ordD, reduceCtorEq] at e <;> cases e
    · exact op_le pins s σ H x y v u Q I rx ry ⟨_, _, Ra.int ha, Ra.int hb, q.bl⟩
    · exact op_le_str pins s σ H x y v u Q I rx ry ⟨_, _, Ra.str ha, Ra.str hb, q.bl⟩
  · cases a <;> cases b <;> simp only [ordD, reduceCtorEq] at e <;> cases e
    · exact op_gt pins s σ H x y v u Q I rx ry ⟨_, _, Ra.int ha, Ra.int hb, q.bl⟩
    · exact op_gt_str pins s σ H x y v u Q I rx ry ⟨_, _, Ra.str ha, Ra.str hb, q.bl⟩
  · cases a <;> cases b <;> simp only [ordD, reduceCtorEq] at e <;> cases e
    · exact op_ge pins s σ H x y v u Q I rx ry ⟨_, _, Ra.int ha, Ra.int hb, q.bl⟩
    · exact op_ge_str pins s σ H x y v u Q I rx ry ⟨_, _, Ra.str ha, Ra.str hb, q.bl⟩
  · obtain ⟨c, ec, rfl⟩ := R.map_ok e
    exact (inAny hu I rx ry ha hb ec).1 q.bl
  · obtain ⟨c, ec, rfl⟩ := R.map_ok e
    exact (inAny hu I rx ry ha hb ec).2 q.bl
  · split at e
    · cases e
      rename_i k
      cases b <;> simp only [isNon, reduceCtorEq] at k
      refine op_isN pins s σ H x y v u Q I rx ry ⟨Ra.non hb, ?_⟩
      rw [isNon_v ha]
      exact q.bl
    · cases e
  · split at e
    · cases e
      rename_i k
      cases b <;> simp only [isNon, reduceCtorEq] at k
      refine op_notN pins s σ H x y v u Q I rx ry ⟨Ra.non hb, ?_⟩
      rw [isNon_v ha]
      exact q.bl
    · cases e
end
end TW

/-! truth, subscripts, slices, calls of what is built in, for trees -/
namespace TW
open PySem PySem.Spec PyProof.Rows L2
theorem R.ofO_ok {α : Type} {o : Option α} {a : α} (h : R.ofO o = .ok a) : o = some a := by
  cases o <;> simp only [R.ofO, reduceCtorEq] at h
  cases h; rfl
theorem RpL.isEmpty {K : PySem.W.Frag} {H : Hp} {P : AP} {n : Nat} {S : List Addr} {vs : List V} {ds : List D} (h : RpL K H P n S vs ds) : vs.isEmpty = ds.isEmpty := by
  cases h <;> rfl
theorem tru_v {K : PySem.W.Frag} {H : Hp} {v : V} {d : D} {k : Bool} (h : Ra K H v d) (e : tru d = .ok k) : TruV K v H k := by
  cases d <;> simp only [tru] at e
  · rw [Ra.non h]; cases e; rfl
  · rw [Ra.bl h]; cases e; rfl
  · rw [Ra.int h]; cases e; rfl
  · rw [Ra.str h]
    split at e
    · cases e; exact ⟨by rw [sizeLine_LIM]; assumption, rfl⟩
    · cases e
  · cases e
    obtain ⟨a, vs, rfl, ha, hl⟩ := Ra.lst h
    exact .inl ⟨vs, SqL.of ha, by rw [RpL.isEmpty hl]⟩
  · cases e
    obtain ⟨a, vs, rfl, ha, hl⟩ := Ra.tup h
    exact .inr (.inl ⟨vs, ha, by rw [RpL.isEmpty hl]⟩)
  · cases e
    obtain ⟨a, vs, rfl, ha, hl⟩ := Ra.rol h
    exact .inl ⟨vs, ha, by rw [RpL.isEmpty hl]⟩
theorem Rc.rolI {K : PySem.W.Frag} {H : Hp} {P : AP} {v : V} {ds : List D} (h : Rc K H P v (.rol ds)) : ∃ a vs, v = .ref a ∧ SqL K H a vs ∧ RpL K H P 0 [] vs ds := by
  obtain ⟨m, S, hm, h⟩ := h
  cases h with
  | rol ha hl =>
    refine ⟨_, _, rfl, ?_, hl⟩
    rcases ha with ⟨q, _⟩ | q
    · exact .inl q
    · exact .inr q
theorem RpL.lvl0 {K : PySem.W.Frag} {H : Hp} {P : AP} {m : Nat} {S : List Addr} {vs : List V} {ds : List D} (h : RpL K H P m S vs ds) (hS : S = []) (hm : m ≤ 99) : RpL K H P 0 [] vs ds := by
  subst hS
  exact h.shared hm (fun _ p => p) (fun _ z => nomatch z)
theorem atI_map {α β : Type} (f : α → β) (xs : List α) (i : Int) : atI (xs.map f) i = (atI xs i).map f := by
  unfold atI
  rw [List.length_map]
  cases ixN xs.length i <;> simp
theorem atI_get0 {K : PySem.W.Frag} {H : Hp} {P : AP} {S : List Addr} {vs : List V} {ds : List D} {i : Int} {d : D} (h : RpL K H P 0 S vs ds) (e : atI ds i = some d) : ∃ v, atI vs i = some v ∧ Rp K H P 0 [] v d := by
  unfold atI at e ⊢
  rw [h.len]
  cases q : ixN ds.length i with
  | none => rw [q] at e; cases e
  | some j =>
    rw [q] at e
    exact RpL.get h e
section
variable {X : Cx}
def rIdx (K : PySem.W.Frag) : R2 := fun x y H Q => ∃ P a b d, Rc K H P x a ∧ Ra K H y b ∧ idx a b = .ok d ∧ Po K H P 0 d Q
theorem ix_any : IxR X (rIdx X.K) := by
  intro va sl pins s σ H x y v u Q I rx ry h hs
  obtain ⟨P, a, b, d, ha, hb, e, q⟩ := h
  cases a <;> cases b <;> simp only [idx, reduceCtorEq] at e
  · split at e
    · have e := R.ofO_ok e
      rw [Option.map_eq_some_iff] at e
      obtain ⟨c, e1, rfl⟩ := e
      exact ix_str va sl pins s σ H x y v u Q I rx ry ⟨_, _, c, rc_str ha, Ra.int hb, by rw [sizeLine_LIM]; assumption, e1, q.str⟩ hs
    · cases e
  · obtain ⟨p, vs, rfl, hl, il⟩ := ha.items
    obtain ⟨w, ew, rw'⟩ := atI_get0 il (R.ofO_ok e)
    exact ix_list va sl pins s σ H _ y v u Q I rx ry ⟨p, vs, _, w, rfl, Ra.int hb, SqL.of hl, ew, q.sh rw'⟩ hs
  · obtain ⟨p, vs, rfl, hl, il⟩ := ha.tupI
    obtain ⟨w, ew, rw'⟩ := atI_get0 il (R.ofO_ok e)
    exact ix_tup va sl pins s σ H _ y v u Q I rx ry ⟨p, vs, _, w, rfl, Ra.int hb, hl, ew, q.sh rw'⟩ hs
  · obtain ⟨p, vs, rfl, hl, il⟩ := ha.rolI
    obtain ⟨w, ew, rw'⟩ := atI_get0 il (R.ofO_ok e)
    exact ix_list va sl pins s σ H _ y v u Q I rx ry ⟨p, vs, _, w, rfl, Ra.int hb, hl, ew, q.sh rw'⟩ hs
theorem RpL.cut {K : PySem.W.Frag} {H : Hp} {P : AP} {vs : List V} {ds : List D} (h : RpL K H P 0 [] vs ds) (lo hi : Option Int) : RpL K H P 0 [] (cutV vs lo hi) (cutL ds lo hi) := by
  have hl := h.len
  refine RpL.all0 ?_ fun i v d e1 e2 => ?_
  · unfold cutV cutL
    simp only [List.length_take, List.length_drop, hl]
  · unfold cutV at e1
    unfold cutL at e2
    rw [hl] at e1
    have hi : i < HT.sIx ds.length ds.length hi - HT.sIx ds.length 0 lo := by
      rcases Nat.lt_or_ge i (HT.sIx ds.length ds.length hi - HT.sIx ds.length 0 lo) with z | z
      · exact z
      · rw [List.getElem?_take_eq_none z] at e2; cases e2
    rw [List.getElem?_take_of_lt hi, List.getElem?_drop] at e1 e2
    obtain ⟨w, ew, r⟩ := RpL.get h e2
    rw [e1] at ew
    cases ew
    exact r
def rSlc (K : PySem.W.Frag) : V → Option Int → Option Int → Hp → VK → Prop := fun x lo hi H Q => ∃ P a d, Rc K H P x a ∧ slc a lo hi = .ok d ∧ Po K H P 1 d Q
theorem sl_any : SlR X (rSlc X.K) := by
  intro pins s σ H x v vl vu lo hi sl Q I rx hs pl pu h
  obtain ⟨P, a, d, ha, e, q⟩ := h
  cases a <;> simp only [slc, reduceCtorEq] at e
  · split at e
    · cases e
      refine sl_str pins s σ H x v vl vu lo hi sl Q I rx hs pl pu ⟨_, rc_str ha, by rw [sizeLine_LIM]; assumption, ?_⟩
      have := q.str
      unfold cutS
      unfold cutL at this
      simpa [Str.length] using this
    · cases e
  · cases e
    obtain ⟨p, vs, rfl, hl, il⟩ := ha.items
    exact sl_list pins s σ H _ v vl vu lo hi sl Q I rx hs pl pu ⟨p, vs, rfl, SqL.of hl, q.lst1 (il.cut lo hi)⟩

/-! ### what is built in -/
inductive Bn where
  | f (id : String) | t (id : String)
def Bn.v : Bn → Value
  | .f i => .builtin i
  | .t i => .type i
def nm1 : B1 → String
  | .len => "len" | .abs => "abs" | .int => "int" | .repr => "repr" | .all => "all" | .any => "any" | .sum => "sum" | .lst => "list" | .ltp => "list" | .tup => "tuple"
def bn1 : B1 → Bn
  | .len => .f "len" | .abs => .f "abs" | .int => .t "int" | .repr => .f "repr" | .all => .f "all" | .any => .f "any" | .sum => .f "sum" | .lst => .t "list" | .ltp => .t "list" | .tup => .t "tuple"
def lv1 : B1 → Nat
  | .lst => 1
  | .ltp => 1
  | .tup => 0
  | _ => 99
def nm2 : B2 → String
  | .min => "min" | .max => "max"
theorem boot1 (f : B1) : bootBuiltins (Str.ofString (nm1 f)) = some (bn1 f).v := by
  cases f <;> decide +kernel
theorem boot2 (f : B2) : bootBuiltins (Str.ofString (nm2 f)) = some (.builtin (nm2 f)) := by
  cases f <;> decide +kernel
theorem boolsD_v {K : PySem.W.Frag} {H : Hp} : ∀ {ds : List D} {vs : List V} {bs : List Bool}, RaL K H vs ds → bools ds = some bs → vs = bs.map V.bl
  | [], _, _, h, e => by
    rw [RpL.unnil h]
    simp only [bools, Option.some.injEq] at e
    subst e
    rfl
  | d :: ds, vs, bs, h, e => by
    obtain ⟨v, r, rfl⟩ := RpL.uncons h
    obtain ⟨h1, h2⟩ := RpL.cons0 h
    cases d <;> simp only [bools, reduceCtorEq] at e
    rw [Option.map_eq_some_iff] at e
    obtain ⟨c, e1, rfl⟩ := e
    rw [boolsD_v h2 e1, Ra.bl h1]
    rfl
theorem intsD_v {K : PySem.W.Frag} {H : Hp} : ∀ {ds : List D} {vs : List V} {bs : List Int}, RaL K H vs ds → intsD ds = some bs → vs = bs.map V.int
  | [], _, _, h, e => by
    rw [RpL.unnil h]
    simp only [intsD, Option.some.injEq] at e
    subst e
    rfl
  | d :: ds, vs, bs, h, e => by
    obtain ⟨v, r, rfl⟩ := RpL.uncons h
    obtain ⟨h1, h2⟩ := RpL.cons0 h
    cases d <;> simp only [intsD, reduceCtorEq] at e
    rw [Option.map_eq_some_iff] at e
    obtain ⟨c, e1, rfl⟩ := e
    rw [intsD_v h2 e1, Ra.int h1]
    rfl
theorem strsD_v {K : PySem.W.Frag} {H : Hp} : ∀ {ds : List D} {vs : List V} {bs : List Str}, RaL K H vs ds → strsD ds = some bs → vs = bs.map V.str
  | [], _, _, h, e => by
    rw [RpL.unnil h]
    simp only [strsD, Option.some.injEq] at e
    subst e
    rfl
  | d :: ds, vs, bs, h, e => by
    obtain ⟨v, r, rfl⟩ := RpL.uncons h
    obtain ⟨h1, h2⟩ := RpL.cons0 h
    cases d <;> simp only [strsD, reduceCtorEq] at e
    rw [Option.map_eq_some_iff] at e
    obtain ⟨c, e1, rfl⟩ := e
    rw [strsD_v h2 e1, Ra.str h1]
    rfl
def rC1 (K : PySem.W.Frag) (f : B1) : List V → Hp → VK → Prop := fun xs H Q => ∃ P x a d, xs = [x] ∧ Rc K H P x a ∧ call1 f a = .ok d ∧ Po K H P (lv1 f) d Q
theorem cr_1 (hc : X.calm = true) (hg : X.A.guards = some []) (hu : X.A.units + 70 < cLine) (f : B1) : CallR X (bn1 f).v (rC1 X.K f) := by
  intro pins s σ H xs us Q I r h
  obtain ⟨P, x, a, d, rfl, ha, e, q⟩ := h
  cases f
  · refine call_len pins s σ H _ us Q I r ⟨x, ?_⟩
    cases a <;> simp only [call1, reduceCtorEq] at e
    · split at e
      · cases e
        have := q.int
        rw [rc_str ha]
        exact ⟨_, rfl, ⟨by rw [sizeLine_LIM]; assumption, rfl⟩, this⟩
      · cases e
    · cases e
      obtain ⟨p, vs, rfl, hl, il⟩ := ha.items
      exact ⟨_, rfl, .inl ⟨vs, SqL.of hl, il.len.symm⟩, q.int⟩
    · cases e
      obtain ⟨p, vs, rfl, hl, il⟩ := Ra.tup ha.ra
      exact ⟨_, rfl, .inr ⟨vs, hl, il.len.symm⟩, q.int⟩
    · cases e
      obtain ⟨p, vs, rfl, hl, il⟩ := ha.rolI
      exact ⟨_, rfl, .inl ⟨vs, hl, il.len.symm⟩, q.int⟩
  · cases a <;> simp only [call1, reduceCtorEq] at e
    cases e
    rw [rc_int ha] at r
    exact call_abs pins s σ H _ us Q I r ⟨_, rfl, q.int⟩
  · refine call_int1 pins s σ H _ us Q I r ?_
    cases a <;> simp only [call1, reduceCtorEq] at e
    · cases e
      rw [rc_bl ha]
      exact .inr ⟨_, rfl, q.int⟩
    · cases e
      rw [rc_int ha]
      exact .inl ⟨_, rfl, q.int⟩
  · simp only [call1] at e
    obtain ⟨c, rfl⟩ := R.iff_ok e
    simp only [Bool.and_eq_true, decide_eq_true_eq] at c
    exact call_repr hg hu pins s σ H _ us Q I r ⟨x, a, rfl, ha.ra, c.1.1, c.1.2, c.2, q.str⟩
  · cases a <;> simp only [call1, reduceCtorEq] at e
    have e := R.ofO_ok e
    rw [Option.map_eq_some_iff] at e
    obtain ⟨bs, e1, rfl⟩ := e
    obtain ⟨p, vs, rfl, hl, il⟩ := Ra.lst ha.ra
    have ev := boolsD_v il e1
    subst ev
    exact cr_all hc pins s σ H _ us Q I r ⟨p, bs, rfl, SqL.of hl, q.bl⟩
  · cases a <;> simp only [call1, reduceCtorEq] at e
    have e := R.ofO_ok e
    rw [Option.map_eq_some_iff] at e
    obtain ⟨bs, e1, rfl⟩ := e
    obtain ⟨p, vs, rfl, hl, il⟩ := Ra.lst ha.ra
    have ev := boolsD_v il e1
    subst ev
    exact cr_any hc pins s σ H _ us Q I r ⟨p, bs, rfl, SqL.of hl, q.bl⟩
  · cases a <;> simp only [call1, reduceCtorEq] at e
    have e := R.ofO_ok e
    rw [Option.map_eq_some_iff] at e
    obtain ⟨bs, e1, rfl⟩ := e
    obtain ⟨p, vs, rfl, hl, il⟩ := Ra.lst ha.ra
    have ev := intsD_v il e1
    subst ev
    exact cr_sum hc pins s σ H _ us Q I r ⟨p, bs, rfl, SqL.of hl, q.int⟩
  · cases a <;> simp only [call1, reduceCtorEq] at e
    · cases e
      obtain ⟨p, vs, rfl, hl, il⟩ := ha.items
      exact call_list_of pins s σ H _ us Q I r ⟨p, vs, rfl, .inl (SqL.of hl), q.lst1 il⟩
  · cases a <;> simp only [call1, reduceCtorEq] at e
    cases e
    obtain ⟨p, vs, rfl, hl, il⟩ := ha.tupI
    exact call_list_of pins s σ H _ us Q I r ⟨_, _, rfl, .inr hl, q.lst1 il⟩
  · cases a <;> simp only [call1, reduceCtorEq] at e
    · cases e
      obtain ⟨p, vs, rfl, hl, il⟩ := ha.items
      exact call_tuple_of pins s σ H _ us Q I r ⟨_, _, rfl, .inl ⟨SqL.of hl, q.tup0 il⟩⟩
    · cases e
      obtain ⟨p, vs, rfl, hl, il⟩ := ha.tupI
      exact call_tuple_of pins s σ H _ us Q I r ⟨_, _, rfl, .inr ⟨hl, q.sh (.tup0 hl il)⟩⟩
def rC2 (f : B2) : List V → Hp → VK → Prop := fun xs H Q => ∃ x y a b d, xs = [x, y] ∧ x = .int a ∧ y = .int b ∧ call2 f (.int a) (.int b) = .ok d ∧ Q (vOf d) H
theorem cr_2 (hc : X.calm = true) (f : B2) : CallR X (.builtin (nm2 f)) (rC2 f) := by
  intro pins s σ H xs us Q I r h
  obtain ⟨x, y, a, b, d, rfl, rfl, rfl, e, q⟩ := h
  cases f <;> (simp only [call2] at e; cases e)
  · exact call_min2 hc pins s σ H _ us Q I r ⟨_, _, rfl, q⟩
  · exact call_max2 hc pins s σ H _ us Q I r ⟨_, _, rfl, q⟩
end
end TW

/-! terms beside the text: the match, the levels, what a body stands in -/
namespace TW
open PySem PySem.Spec PyProof.Rows L2

/-! ### levels -/
def up (n : Nat) : Nat := if n = 99 then 99 else min (n + 1) 98
theorem up_le {n : Nat} (h : n ≤ 99) : up n ≤ 99 := by unfold up; split <;> omega
theorem dn_up {n : Nat} (h : n ≤ 99) : dn (up n) ≤ n := by unfold dn up; split <;> split <;> omega
theorem up_ne (n : Nat) : up n ≠ 0 := by unfold up; split <;> omega
abbrev RTs := Nat → Nat
mutual
def fr (T : RTs) : E → Nat
  | .var _ => 0
  | .cst _ => 99
  | .glb _ _ => 99
  | .bin o _ _ => (match o with | .add => 1 | .mul => 1 | _ => 99)
  | .neg _ => 99
  | .cmp _ _ _ => 99
  | .chn _ _ _ _ _ => 99
  | .and e es => min (fr T e) (frL T es)
  | .or e es => min (fr T e) (frL T es)
  | .not _ => 99
  | .ife _ a b => min (fr T a) (fr T b)
  | .lst es => up (frL T es)
  | .tup es => tn (frL T es)
  | .idx _ _ => 0
  | .slc _ _ _ => 1
  | .c1 f _ => lv1 f
  | .c2 _ _ _ => 99
  | .mth _ _ _ => 99
  | .fn f _ _ => min (T f) 99
  | .lc _ _ _ _ e => up (fr T e)
def frL (T : RTs) : L → Nat
  | .nil => 99
  | .cons e es => min (fr T e) (frL T es)
end
mutual
theorem fr_le (T : RTs) : ∀ e : E, fr T e ≤ 99
  | .var _ => by simp [fr]
  | .cst _ => by simp [fr]
  | .glb _ _ => by simp [fr]
  | .bin o _ _ => by simp only [fr]; cases o <;> simp
  | .neg _ => by simp [fr]
  | .cmp _ _ _ => by simp [fr]
  | .chn _ _ _ _ _ => by simp [fr]
  | .and e es => by simp only [fr]; have := fr_le T e; omega
  | .or e es => by simp only [fr]; have := fr_le T e; omega
  | .not _ => by simp [fr]
  | .ife _ a b => by simp only [fr]; have := fr_le T a; omega
  | .lst es => by simp only [fr]; exact up_le (frL_le T es)
  | .tup es => by simp only [fr]; exact Nat.le_trans (tn_le _) (frL_le T es)
  | .idx _ _ => by simp [fr]
  | .slc _ _ _ => by simp [fr]
  | .c1 f _ => by simp only [fr]; cases f <;> simp [lv1]
  | .c2 _ _ _ => by simp [fr]
  | .mth _ _ _ => by simp [fr]
  | .fn _ _ _ => by simp only [fr]; omega
  | .lc _ _ _ _ e => by simp only [fr]; exact up_le (fr_le T e)
theorem frL_le (T : RTs) : ∀ es : L, frL T es ≤ 99
  | .nil => by simp [frL]
  | .cons e es => by simp only [frL]; have := fr_le T e; omega
end
abbrev Lv := List Nat
def lv (A : Lv) (i : Nat) : Nat := A.getD i 0
def zeroL (A : Lv) (is : List Nat) : Lv := is.foldl (fun A i => A.set i 0) A
def isV1 (A : Lv) : E → Bool
  | .var i => decide (lv A i ≤ 1)
  | _ => false
mutual
/-- may e be read where the slots are owned as A says? Its value's lists have to be shared, or new -/
def okS (T : RTs) (A : Lv) : E → Bool
  | .var i => lv A i == 0
  | .cst _ => true
  | .glb _ _ => true
  | .bin o a b => (match o with
    | .add => (isV1 A a || fr T a == 99 || okS T A a) && (isV1 A b || fr T b == 99 || okS T A b)
    | .mul => (isV1 A a || fr T a == 99 || okS T A a) && (isV1 A b || fr T b == 99 || okS T A b)
    | _ => true)
  | .neg _ => true
  | .cmp _ _ _ => true
  | .chn _ _ _ _ _ => true
  | .and e es => (fr T e == 99 || okS T A e) && okL T A es
  | .or e es => (fr T e == 99 || okS T A e) && okL T A es
  | .not _ => true
  | .ife _ a b => (fr T a == 99 || okS T A a) && (fr T b == 99 || okS T A b)
  | .lst es => okL T A es
  | .tup es => okL T A es
  | .idx a _ => isV1 A a || fr T a == 99 || okS T A a
  | .slc a _ _ => isV1 A a || fr T a == 99 || okS T A a
  | .c1 f a => (lv1 f == 99) || (isV1 A a || fr T a == 99 || okS T A a)
  | .c2 _ _ _ => true
  | .mth _ _ _ => true
  | .fn f _ es => decide (99 ≤ T f) || okL T A es
  | .lc own _ it _ e => okIC T A it && (fr T e == 99 || okS T (zeroL A own) e)
def okL (T : RTs) (A : Lv) : L → Bool
  | .nil => true
  | .cons e es => (fr T e == 99 || okS T A e) && okL T A es
/-- a walk's things, of which the items alone are asked -/
def okIC (T : RTs) (A : Lv) : I → Bool
  | .it e => isV1 A e || fr T e == 99 || okS T A e
  | .rg1 _ => true
  | .rg2 _ _ => true
  | .enum e => isV1 A e || fr T e == 99 || okS T A e
  | .zip a b => (isV1 A a || fr T a == 99 || okS T A a) && (isV1 A b || fr T b == 99 || okS T A b)
end
def okM (T : RTs) (A : Lv) (e : E) : Bool := fr T e == 99 || okS T A e
def okC (T : RTs) (A : Lv) (e : E) : Bool := isV1 A e || fr T e == 99 || okS T A e
/-- a walk's things, themselves too -/
def okI (T : RTs) (A : Lv) : I → Bool
  | .it e => okM T A e
  | .rg1 _ => true
  | .rg2 _ _ => true
  | .enum e => okM T A e
  | .zip a b => okM T A a && okM T A b
theorem lv_set (A : Lv) (i j : Nat) : lv (A.set i 0) j = 0 ∨ lv (A.set i 0) j = lv A j := by
  unfold lv
  rw [List.getD_eq_getElem?_getD, List.getD_eq_getElem?_getD, List.getElem?_set]
  split
  · split <;> simp
  · exact .inr rfl
theorem lv_zeroL : ∀ (is : List Nat) (A : Lv) (j : Nat), lv (zeroL A is) j = 0 ∨ lv (zeroL A is) j = lv A j
  | [], _, _ => .inr rfl
  | i :: is, A, j => by
    rcases lv_zeroL is (A.set i 0) j with h | h
    · exact .inl h
    · rcases lv_set A i j with h2 | h2
      · exact .inl (h.trans h2)
      · exact .inr (h.trans h2)
theorem lv_nil (i : Nat) : lv [] i = 0 := rfl
def Zr (A : Lv) : Prop := ∀ i, lv A i = 0
theorem Zr.zeroL {A : Lv} (h : Zr A) (is : List Nat) : Zr (zeroL A is) := fun i => (lv_zeroL is A i).elim id fun e => e.trans (h i)
mutual
/-- where nothing is owned all may be read -/
theorem okS_zr (T : RTs) : ∀ (e : E) {A : Lv}, Zr A → okS T A e = true
  | .var i, _, h => by simp [okS, h i]
  | .cst _, _, _ => rfl
  | .glb _ _, _, _ => rfl
  | .bin o a b, _, h => by cases o <;> simp [okS, okS_zr T a h, okS_zr T b h]
  | .neg _, _, _ => rfl
  | .cmp _ _ _, _, _ => rfl
  | .chn _ _ _ _ _, _, _ => rfl
  | .and e es, _, h => by simp [okS, okS_zr T e h, okL_zr T es h]
  | .or e es, _, h => by simp [okS, okS_zr T e h, okL_zr T es h]
  | .not _, _, _ => rfl
  | .ife _ a b, _, h => by simp [okS, okS_zr T a h, okS_zr T b h]
  | .lst es, _, h => by simp [okS, okL_zr T es h]
  | .tup es, _, h => by simp [okS, okL_zr T es h]
  | .idx a _, _, h => by simp [okS, okS_zr T a h]
  | .slc a _ _, _, h => by simp [okS, okS_zr T a h]
  | .c1 _ a, _, h => by simp [okS, okS_zr T a h]
  | .c2 _ _ _, _, _ => rfl
  | .mth _ _ _, _, _ => rfl
  | .fn _ _ es, _, h => by simp [okS, okL_zr T es h]
  | .lc own _ it _ e, _, h => by simp [okS, okIC_zr T it h, okS_zr T e (h.zeroL own)]
theorem okL_zr (T : RTs) : ∀ (es : L) {A : Lv}, Zr A → okL T A es = true
  | .nil, _, _ => rfl
  | .cons e es, _, h => by simp [okL, okS_zr T e h, okL_zr T es h]
theorem okIC_zr (T : RTs) : ∀ (it : I) {A : Lv}, Zr A → okIC T A it = true
  | .it e, _, h => by simp [okIC, okS_zr T e h]
  | .rg1 _, _, _ => rfl
  | .rg2 _ _, _, _ => rfl
  | .enum e, _, h => by simp [okIC, okS_zr T e h]
  | .zip a b, _, h => by simp [okIC, okS_zr T a h, okS_zr T b h]
end

/-! ### the match with the text -/
structure Cn where
  fs : List Str
  gl : List (Str × C)
def nameOk (x : Str) : Bool := x != "__debug__" && x != "__classdict__"
def visB (sc : Scope) (x : Str) : Bool := match sc.names.lookup x with
  | some .local => true | some .cell => true | some .free => true | _ => false
def locB (sc : Scope) (x : Str) : Bool := match sc.names.lookup x with
  | some .local => true | some .cell => true | _ => false
def glB (sc : Scope) (x : Str) : Bool := match sc.names.lookup x with
  | some .globalImplicit => true | _ => false
def cOk : C → Const → Bool
  | .non, .none => true
  | .bl b, .bool c => b == c
  | .int i, .int j => i == j
  | .str x, .str y => x == y
  | _, _ => false
def mTg (N : List Str) (sc : Scope) : Tg → Expr → Bool
  | .v i, .Name x _ => N[i]? == some x && locB sc x
  | .t is, .Tuple es _ _ => go is es
  | _, _ => false
where go : List Nat → List Expr → Bool
  | [], [] => true
  | i :: is, .Name x _ :: es => N[i]? == some x && locB sc x && go is es
  | _, _ => false
def tgIx : Tg → List Nat
  | .v i => [i]
  | .t is => is
/-- no call of super() -/
def plainO : Expr → Bool
  | .Call (.Name _ _) [] [] _ => false
  | _ => true
/-- at most one test -/
def oneIf : L → Bool
  | .cons _ (.cons _ _) => false
  | _ => true
def isInOp : CO → Bool
  | .isIn => true | .notIn => true | _ => false
mutual
def mE (N : List Str) (c : Cn) : Scope → E → Expr → Bool
  | sc, .var i, .Name x _ => N[i]? == some x && visB sc x && nameOk x
  | _, .cst k, .Constant v _ _ => cOk k v
  | sc, .glb x k, .Name y _ => x == y && glB sc x && c.gl.contains (x, k) && nameOk x
  | sc, .bin o a b, .BinOp x op y _ => op == opOf o && mE N c sc a x && mE N c sc b y
  | sc, .neg a, .UnaryOp op x _ => op == .USub && mE N c sc a x
  | sc, .cmp o a b, .Compare x [op] [y] _ => op == cmpOf o && mE N c sc a x && mE N c sc b y
  | sc, .chn o p a b d, .Compare x [op, oq] [y, z] _ => op == cmpOf o && oq == cmpOf p && !isInOp o && !isInOp p && mE N c sc a x && mE N c sc b y && mE N c sc d z
  | sc, .and e es, .BoolOp op (x :: xs) _ => op == .And && mE N c sc e x && mL N c sc es xs
  | sc, .or e es, .BoolOp op (x :: xs) _ => op == .Or && mE N c sc e x && mL N c sc es xs
  | sc, .not a, .UnaryOp op x _ => op == .Not && mE N c sc a x
  | sc, .ife t a b, .IfExp x y z _ => mE N c sc t x && mE N c sc a y && mE N c sc b z
  | sc, .lst es, .List xs _ => mL N c sc es xs
  | sc, .tup es, .Tuple xs _ _ => mL N c sc es xs
  | sc, .idx a i, .Subscript x y _ => mE N c sc a x && mE N c sc i y
  | sc, .slc a lo hi, .Subscript x (.Slice l h none _) _ => mE N c sc a x && mO N c sc lo l && mO N c sc hi h
  | sc, .c1 f a, .Call (.Name x _) [y] [] _ => x == Str.ofString (nm1 f) && glB sc x && mE N c sc a y
  | sc, .c2 f a b, .Call (.Name x _) [y, z] [] _ => x == Str.ofString (nm2 f) && glB sc x && mE N c sc a y && mE N c sc b z
  | sc, .mth _ a b, .Call (.Attribute o nm apos) [y] [] pos => nm == "join" && plainO o && apos.endLine == pos.line && mE N c sc a o && mE N c sc b y
  | sc, .fn f x es, .Call (.Name y _) ys [] _ => x == y && glB sc x && c.fs[f]? == some x && nameOk x && mL N c sc es ys
  | sc, .lc own tg it ifs e, .ListComp elt [⟨tga, ita, ifa, asy⟩] scope _ => asy == 0 && oneIf ifs && (tgIx tg).all own.contains && blkC N sc scope (own.map fun i => (N.getD i "", i)) && mTg N scope tg tga && mI N c sc it tga ita && mL N c scope ifs ifa && mE N c scope e elt
  | _, _, _ => false
def mL (N : List Str) (c : Cn) : Scope → L → List Expr → Bool
  | _, .nil, [] => true
  | sc, .cons e es, x :: xs => mE N c sc e x && mL N c sc es xs
  | _, _, _ => false
def mO (N : List Str) (c : Cn) : Scope → O → Option Expr → Bool
  | _, .no, none => true
  | sc, .so e, some x => mE N c sc e x
  | _, _, _ => false
def mI (N : List Str) (c : Cn) : Scope → I → Expr → Expr → Bool
  | sc, .it e, _, x => mE N c sc e x
  | sc, .rg1 a, _, .Call (.Name x _) [y] [] _ => x == "range" && glB sc x && mE N c sc a y
  | sc, .rg2 a b, _, .Call (.Name x _) [y, z] [] _ => x == "range" && glB sc x && mE N c sc a y && mE N c sc b z
  | sc, .enum e, .Tuple _ _ _, .Call (.Name x _) [y] [] _ => x == "enumerate" && glB sc x && mE N c sc e y
  | sc, .zip a b, .Tuple _ _ _, .Call (.Name x _) [y, z] [] _ => x == "zip" && glB sc x && mE N c sc a y && mE N c sc b z
  | _, _, _, _ => false
end
end TW

/-! what a body stands in; the call of a def; the readings of terms -/
namespace TW
open PySem PySem.Spec PyProof.Rows L2

/-! ### defs, where no container is being shown -/
structure FnG (P : Program) (w : World) (K : PySem.W.Frag) (mg : Str → Option Value) (base : Heap) (k : Nat) (f : Addr) (fd : FuncData) (ps : List Str) (sp : Sp) : Prop where
  len : ∀ vs H Q E, sp vs H Q E → vs.length = ps.length
  run : ∀ (A : Around) (outer : List Env) (s : Shared) (H : Hp) (args : Args) (us : List Value) (vs : List V) (Q : VK) (E : XK), Room k A → A.guards = some [] → Env0 P w K mg base A outer s H → BindsTo s fd args (ps.zip us) → Vals vs us → sp vs H Q E →
    codeAny (model P w) A (.call (.ref f) args) (CR (L2.CX P w) outer P w H s Q E) s
theorem FnG.mono {P : Program} {w : World} {K : PySem.W.Frag} {mg : Str → Option Value} {base : Heap} {j k : Nat} {f : Addr} {fd : FuncData} {ps : List Str} {sp : Sp} (F : FnG P w K mg base j f fd ps sp) (h : j ≤ k) : FnG P w K mg base k f fd ps sp :=
  ⟨F.len, fun A outer s H args us vs Q E hr => F.run A outer s H args us vs Q E (hr.mono h)⟩
section
variable {X : Cx} {W : WX} {k : Nat} {f : Addr} {fd : FuncData} {ps : List Str} {sp : Sp} {x : Str} {p pos : Pos}
/-- the callee is run -/
theorem run_fnG {pins : List (Addr × Obj)} {σ : L2.St} {H : Hp} {s : Shared} {Q : VK} {us : List Value} {vs : List V} (F : FnG X.prog X.w X.K X.mg X.base k f fd ps sp) (hr : Room k X.A) (gu : X.A.guards = some []) (hb : Binds X.K fd ps []) (tk : Takes X W)
    (I : Inv X pins σ H s) (r : Vals vs us) (h : sp vs H Q (WE W σ)) : wpAny (model X.prog X.w) X.A (call (.ref f) us) (EP X pins σ Q) X.xe s := by
  have hlen : (us ++ []).length = ps.length := by rw [List.append_nil, ← r.length]; exact F.len _ _ _ _ h
  have bnd : BindsTo s fd ⟨us, []⟩ (ps.zip us) := by simpa using hb s us I.kIn hlen
  have go := F.run X.A X.stack s H ⟨us, []⟩ us vs Q (WE W σ) hr gu I.env0 bnd r h
  refine wpAny_call (codeAny_mono go fun res s' end_ => ?_)
  match res, end_ with
  | .error e, q => exact passAt tk σ pins H s e s' I q
  | .ok (.ret u), q => exact I.after q
  | .ok .next, q => exact q.elim
  | .ok .brk, q => exact q.elim
  | .ok .cont, q => exact q.elim
theorem pe_callG {e : Expr} {es : List Expr} {t : TA} (F : FnG X.prog X.w X.K X.mg X.base k f fd ps sp) (hr : Room k X.A) (gu : X.A.guards = some []) (hb : Binds X.K fd ps []) (tk : Takes X W) (hg : Gl X x) (hm : X.mg x = some (.ref f)) (hk : PySem.W.keepIn X.K (.ref f) = true)
    (hdb : (x == ("__debug__" : Str)) = false) (ha : PA X (e :: es) t) (st : starEach (e :: es) X.env = (false, eval e X.env) :: starEach es X.env) (pl : (backTo pos (starEach es X.env)).any (·.1) = false) :
    PE X (.Call (.Name x p) (e :: es) [] pos) (fun σ H Q => t σ H fun vs H1 => sp vs H1 Q (WE W σ)) :=
  ⟨fun pins s σ H Q I h => wpAny_Call_Name_kw (ld_glob I hg hm
    (PySem.W.callWith_K (h₀ := X.base) I.ok.mod.kin hk (thn (ha.run pos pins s σ H _ I h) fun us s1 q => let ⟨vs, H1, I1, r, q1⟩ := q; ⟨I1.kIn, run_fnG F hr gu hb tk I1 r q1⟩) st pl) hdb)⟩
theorem pe_callG0 (F : FnG X.prog X.w X.K X.mg X.base k f fd ps sp) (hr : Room k X.A) (gu : X.A.guards = some []) (hb : Binds X.K fd ps []) (tk : Takes X W) (hg : Gl X x) (hm : X.mg x = some (.ref f)) (hk : PySem.W.keepIn X.K (.ref f) = true)
    (hdb : (x == ("__debug__" : Str)) = false) : PE X (.Call (.Name x p) [] [] pos) (fun σ H Q => sp [] H Q (WE W σ)) :=
  ⟨fun pins s σ H Q I h => wpAny_Call_Name_kw (ld_glob I hg hm (PySem.W.callWith_K0 I.kIn hk (run_fnG (us := []) F hr gu hb tk I .nil h)) hdb)⟩
end

/-! ### the slots -/
structure EV (K : PySem.W.Frag) (A : Lv) (P : AP) (ρ : En) (σ : L2.St) (H : Hp) : Prop where
  len : ρ.length = σ.length
  get : ∀ (i : Nat) (d : D), ρ[i]? = some (some d) → ∃ v S, σ[i]? = some (some v) ∧ lv A i ≤ 99 ∧ Rp K H P (lv A i) S v d
theorem EV.same {K : PySem.W.Frag} {A : Lv} {P : AP} {ρ : En} {σ : L2.St} {H H' : Hp} (h : EV K A P ρ σ H) (s : Same H H') : EV K A P ρ σ H' := ⟨h.len, fun i d e =>
  let ⟨v, S, a, b, c⟩ := h.get i d e; ⟨v, S, a, b, c.same s⟩⟩
theorem EV.wP {K : PySem.W.Frag} {A : Lv} {P P' : AP} {ρ : En} {σ : L2.St} {H : Hp} (h : EV K A P ρ σ H) (w : ∀ a, P a → P' a) : EV K A P' ρ σ H := ⟨h.len, fun i d e =>
  let ⟨v, S, a, b, c⟩ := h.get i d e; ⟨v, S, a, b, c.wP w⟩⟩
theorem EV.free {K : PySem.W.Frag} {A : Lv} {P : AP} {ρ : En} {σ : L2.St} {H : Hp} (h : EV K A P ρ σ H) : EV K [] (fun _ => True) ρ σ H := ⟨h.len, fun i d e =>
  let ⟨v, S, a, b, c⟩ := h.get i d e; ⟨v, [], a, by simp [lv], c.ra b⟩⟩
theorem EV.dom {K : PySem.W.Frag} {A : Lv} {P : AP} {ρ : En} {σ : L2.St} {H : Hp} (h : EV K A P ρ σ H) : EV K A (fun a => P a ∧ H a ≠ none) ρ σ H := ⟨h.len, fun i d e =>
  let ⟨v, S, a, b, c⟩ := h.get i d e; ⟨v, S, a, b, Rp.dom d c⟩⟩

/-! ### answers and wishes -/
abbrev Cl := Nat → Value
def Wx (W : WX) (cl : Cl) (n : Nat) (i : Int) (σ : L2.St) (H : Hp) : Prop := ∀ H' dd, Same H H' → H' dd = some (.xd [("at", .int i)]) → W (cl n) (some dd) σ H'
def An {α : Type} (W : WX) (cl : Cl) (σ : L2.St) (H : Hp) (r : R α) (k : α → Prop) : Prop := match r with
  | .ok a => k a
  | .exc n i => Wx W cl n i σ H
  | .bad => False
section
variable {W : WX} {cl : Cl} {σ : L2.St} {H H1 : Hp} {α β : Type}
theorem Wx.mono {n : Nat} {i : Int} (h : Wx W cl n i σ H) (s : Same H H1) : Wx W cl n i σ H1 := fun H' dd s' e => h H' dd (s.trans s') e
theorem An.mono {r : R α} {k k' : α → Prop} (h : An W cl σ H r k) (s : Same H H1) (w : ∀ a, r = .ok a → k a → k' a) : An W cl σ H1 r k' := by
  cases r with
  | ok a => exact w a rfl h
  | exc n i => exact Wx.mono h s
  | bad => exact h
theorem An.imp {r : R α} {k k' : α → Prop} (h : An W cl σ H r k) (w : ∀ a, r = .ok a → k a → k' a) : An W cl σ H r k' := h.mono (Same.refl H) w
theorem An.bind {r : R α} {f : α → R β} {k : β → Prop} (h : An W cl σ H (r.bind f) k) : An W cl σ H r fun a => An W cl σ H (f a) k := by
  cases r <;> exact h
theorem An.ok {r : R α} {a : α} {k : α → Prop} (h : An W cl σ H r k) (e : r = .ok a) : k a := by subst e; exact h
end

/-! ### the context -/
def bltNames : List String := ["len", "abs", "int", "repr", "all", "any", "sum", "list", "tuple", "min", "max", "range", "enumerate", "zip"]
def spF (K : PySem.W.Frag) (T : RTs) (F : Fs) (cl : Cl) (f : Nat) : Sp := fun vs H Q E => ∃ P ds, RpL K H P 0 [] vs ds ∧ match F f ds with
  | .ok d => Po K H P (min (T f) 99) d Q
  | .exc n i => ∀ H' dd, Same H H' → H' dd = some (.xd [("at", .int i)]) → E (cl n) (some dd) H'
  | .bad => False
structure XC (X : Cx) (k : Nat) (c : Cn) (T : RTs) (F : Fs) (cl : Cl) : Prop where
  calm : X.calm = true
  nd : X.N.Nodup
  gu : X.A.guards = some []
  room : Room k X.A
  blt : ∀ n ∈ bltNames, X.mg (Str.ofString n) = none
  glb : ∀ x v, (x, v) ∈ c.gl → ∃ u, X.mg x = some u ∧ RelV v.v u
  fns : ∀ (f : Nat) (x : Str), c.fs[f]? = some x → ∃ a fd ps, X.mg x = some (.ref a) ∧ PySem.W.keepIn X.K (.ref a) = true ∧ Binds X.K fd ps [] ∧ FnG X.prog X.w X.K X.mg X.base k a fd ps (spF X.K T F cl f)
theorem XC.units {X : Cx} {k : Nat} {c : Cn} {T : RTs} {F : Fs} {cl : Cl} (h : XC X k c T F cl) : X.A.units + 70 < cLine := by
  have := h.room.un
  omega
structure GX (X : Cx) (sc : Scope) : Prop where
  vis : ∀ x, visB sc x = true → Vis X.env.scope x
  gl : ∀ x, glB sc x = true → Gl X x
  cf : ∀ x, sc.names.lookup x = some .cell ∨ sc.names.lookup x = some .free → X.env.scope.names.lookup x = some .cell ∨ X.env.scope.names.lookup x = some .free
  loc : ∀ x, locB sc x = true → Loc X.env.scope x ∧ (X.fn x = true ∨ X.env.scope.names.lookup x = some .local)
theorem GX.self {X : Cx} (h : ∀ x, X.fn x = true) : GX X X.env.scope where
  vis x e := by
    unfold visB at e
    unfold Vis
    split at e <;> simp_all
  gl x e := by
    unfold glB at e
    show X.env.scope.names.lookup x = _
    split at e <;> simp_all
  cf x e := e
  loc x e := by
    unfold locB at e
    refine ⟨?_, .inl (h x)⟩
    unfold L2.Loc
    split at e <;> simp_all
theorem relFree {sc : Scope} : ∀ {names : List (Str × NameKind)} {x : Str}, names.lookup x = some .free →
    (names.map fun (n, k) => if (k == NameKind.free && sc.kind == .function && sc.names.lookup n == some .cell) then (n, NameKind.cell) else (n, k)).lookup x = some .cell ∨
    (names.map fun (n, k) => if (k == NameKind.free && sc.kind == .function && sc.names.lookup n == some .cell) then (n, NameKind.cell) else (n, k)).lookup x = some .free
  | [], _, h => by simp at h
  | (n, k) :: r, x, h => by
    rw [List.map_cons]
    cases hx : x == n with
    | true =>
      simp only [List.lookup_cons, hx] at h
      cases h
      dsimp only
      split
      · left; simp only [List.lookup_cons, hx]
      · right; simp only [List.lookup_cons, hx]
    | false =>
      simp only [List.lookup_cons, hx] at h
      have ih := relFree (sc := sc) h
      dsimp only
      split <;> simpa only [List.lookup_cons, hx] using ih
/-- a comprehension's block -/
theorem GX.blk {X : Cx} {scope : Scope} {s : Shared} {H : Hp} {C : Addr} {cl : List (Str × Addr)} {fp : List Addr} : GX (X.blk s H scope (compEnvC scope cl C X.env) fp) scope where
  vis x e := by
    unfold visB at e
    show (relabel scope X.env).names.lookup x = _ ∨ _
    split at e
    · exact .inl (lookup_relS_keep (sc := X.env.scope) (by decide) (by assumption))
    · exact .inr (.inl (lookup_relS_keep (sc := X.env.scope) (by decide) (by assumption)))
    · exact .inr (relFree (sc := X.env.scope) (by assumption))
    · cases e
  gl x e := by
    unfold glB at e
    show (relabel scope X.env).names.lookup x = _
    split at e
    · exact lookup_relS_keep (sc := X.env.scope) (by decide) (by assumption)
    · cases e
  cf x e := by
    show (relabel scope X.env).names.lookup x = _ ∨ _
    rcases e with e | e
    · exact .inl (lookup_relS_keep (sc := X.env.scope) (by decide) e)
    · exact relFree (sc := X.env.scope) e
  loc x e := by
    unfold locB at e
    show (_ ∨ _) ∧ (_ ∨ (relabel scope X.env).names.lookup x = _)
    split at e
    · have := lookup_relS_keep (sc := X.env.scope) (names := scope.names) (x := x) (k := .local) (by decide) (by assumption)
      exact ⟨.inl this, .inr this⟩
    · rename_i q
      have := lookup_relS_keep (sc := X.env.scope) (names := scope.names) (x := x) (k := .cell) (by decide) q
      exact ⟨.inr this, .inl (by show (scope.names.lookup x == some .cell) = true; rw [q]; rfl)⟩
    · cases e
end TW

/-! shapes of the text; readings in three modes -/
namespace TW
open PySem PySem.Spec PyProof.Rows L2

/-! ### shapes -/
def plainX : Expr → Bool
  | .Starred _ _ => false
  | .Set _ _ _ => false
  | .Slice _ _ _ _ => false
  | _ => true
theorem mE_plain {N : List Str} {c : Cn} {sc : Scope} {e : E} {x : Expr} (h : mE N c sc e x = true) : plainX x = true := by
  cases x <;> first | rfl | (cases e <;> simp [mE] at h)
theorem star_cons {x : Expr} (h : plainX x = true) (xs : List Expr) (env : Env) : starEach (x :: xs) env = (false, eval x env) :: starEach xs env := by
  cases x <;> first | rfl | (simp [plainX] at h)
theorem mark_plain {x : Expr} (h : plainX x = true) (op : CmpOp) : behindInMarks op x = false := by
  cases x <;> first | rfl | (simp [plainX] at h)
theorem ix_plain {x : Expr} (h : plainX x = true) : PlainIx x := by
  cases x <;> first | (intro _ _; rfl) | (simp [plainX] at h)
theorem folded_plain {x : Expr} (h : plainX x = true) (env : Env) : ∀ v, foldedSetIterable x env v = pure v := by
  cases x <;> first | (intro _; rfl) | (simp [plainX] at h)
theorem mL_any {N : List Str} {c : Cn} {sc : Scope} {pos : Pos} {env : Env} : ∀ {es : L} {xs : List Expr}, mL N c sc es xs = true → (backTo pos (starEach xs env)).any (·.1) = false
  | .nil, [], _ => rfl
  | .cons e es, x :: xs, h => by
    simp only [mL, Bool.and_eq_true] at h
    rw [star_cons (mE_plain h.1)]
    have := mL_any (pos := pos) (env := env) h.2
    simpa [backTo] using this
  | .nil, _ :: _, h => by simp [mL] at h
  | .cons _ _, [], h => by simp [mL] at h
theorem plainO_base {o : Expr} (h : plainO o = true) (nm : Str) (env : Env) : attributeBase o nm env (eval o env) = eval o env := by
  unfold attributeBase
  split
  · simp [plainO] at h
  · rfl

/-! ### readings -/
section
variable (K : PySem.W.Frag) (T : RTs) (F : Fs) (W : WX) (cl : Cl)
def tE (A : Lv) (e : E) : TE := fun σ H Q => ∃ ρ P, EV K A P ρ σ H ∧ An W cl σ H (evE F e ρ) fun d => Po K H P (fr T e) d Q
def PoC (K : PySem.W.Frag) (H : Hp) (P : AP) (d : D) (Q : VK) : Prop := ∀ v H', Same H H' → Rc K H' (fun a => P a ∨ H a = none) v d → Q v H'
def tC (A : Lv) (e : E) : TE := fun σ H Q => ∃ ρ P, EV K A P ρ σ H ∧ An W cl σ H (evE F e ρ) fun d => PoC K H P d Q
def tA (e : E) : TE := fun σ H Q => ∃ ρ, EV K [] (fun _ => True) ρ σ H ∧ An W cl σ H (evE F e ρ) fun d => PoA K H d Q
def tL (A : Lv) (es : L) : TA := fun σ H Q => ∃ ρ P, EV K A P ρ σ H ∧ An W cl σ H (evL F es ρ) fun ds =>
  ∀ vs H' S, Same H H' → S.Nodup → (∀ a ∈ S, H a = none) → RpL K H' (fun a => (P a ∨ H a = none) ∧ a ∉ S) (frL T es) S vs ds → Q vs H'
def tLA (es : L) : TA := fun σ H Q => ∃ ρ, EV K [] (fun _ => True) ρ σ H ∧ An W cl σ H (evL F es ρ) fun ds => ∀ vs H', Same H H' → RaL K H' vs ds → Q vs H'
def tTe (e : E) : TT := fun σ H Q => ∃ ρ, EV K [] (fun _ => True) ρ σ H ∧ An W cl σ H ((evE F e ρ).bind tru) fun k => ∀ H', Same H H' → Q k H'
end
section
variable {X : Cx} {T : RTs} {F : Fs} {W : WX} {cl : Cl} {e : E} {ast : Expr}
/-- a value at a higher level serves -/
theorem Po.use {K : PySem.W.Frag} {H H' : Hp} {P : AP} {m n : Nat} {d : D} {Q : VK} {v : V} {S : List Addr} (h : Po K H P m d Q) (hm : m ≤ n) (hn : n ≤ 99) (s : Same H H') (nd : S.Nodup) (fr : ∀ a ∈ S, H a = none)
    (r : Rp K H' (fun a => (P a ∨ H a = none) ∧ a ∉ S) n S v d) : Q v H' := by
  obtain ⟨S', sub, q⟩ := Rp.weakN d r hm hn nd
  refine h v H' S' s (nd.sublist sub) (fun a ha => fr a (sub.subset ha)) (q.wP fun a p => ?_)
  rcases p with ⟨p1, p2⟩ | ⟨p1, p2⟩
  · exact ⟨p1, fun z => p2 (sub.subset z)⟩
  · exact ⟨.inr (fr a p1), p2⟩
theorem modeM (hE : ∀ A, okS T A e = true → PE X ast (tE X.K T F W cl A e)) {A : Lv} (ok : okM T A e = true) : PE X ast (tE X.K T F W cl A e) := by
  unfold okM at ok
  cases z : okS T A e with
  | true => exact hE A z
  | false =>
    simp only [z, Bool.or_false, beq_iff_eq] at ok
    refine PE.imp (hE [] (okS_zr T e lv_nil)) fun σ H Q ⟨ρ, P, ev, an⟩ => ⟨ρ, _, ev.free, an.imp fun d _ q => ?_⟩
    rw [ok] at q ⊢
    exact fun v H' S s nd fr r => q v H' S s nd fr (Rp.all d r)
theorem modeA (hE : ∀ A, okS T A e = true → PE X ast (tE X.K T F W cl A e)) : PE X ast (tA X.K F W cl e) :=
  PE.imp (hE [] (okS_zr T e lv_nil)) fun σ H Q ⟨ρ, ev, an⟩ => ⟨ρ, _, ev, an.imp fun d _ q v H' S s nd fr' r => q v H' s (r.ra (fr_le T e))⟩
theorem pe_vr {N : List Str} {i : Nat} {c : Cn} {sc : Scope} (g : GX X sc) (h : mE X.N c sc (.var i) ast = true) : PE X ast (tVar i) := by
  cases ast <;> simp only [mE, reduceCtorEq] at h
  simp only [Bool.and_eq_true, beq_iff_eq, nameOk, bne_iff_ne, ne_eq] at h
  exact pe_var h.1.1 (g.vis _ h.1.2) (by simpa using h.2.1) (by simpa using h.2.2)
theorem modeC {c : Cn} {sc : Scope} (g : GX X sc) (hm : mE X.N c sc e ast = true) (hE : ∀ A, okS T A e = true → PE X ast (tE X.K T F W cl A e)) {A : Lv} (ok : okC T A e = true) : PE X ast (tC X.K F W cl A e) := by
  unfold okC at ok
  cases z : isV1 A e with
  | true =>
    cases e <;> simp only [isV1, reduceCtorEq] at z
    rename_i i
    refine PE.imp (pe_vr (N := X.N) g hm) fun σ H Q ⟨ρ, P, ev, an⟩ => ?_
    have z := of_decide_eq_true z
    simp only [evE, lk] at an
    split at an
    · rename_i d ed
      obtain ⟨v, S, a, b, r⟩ := ev.get i d ed
      exact ⟨v, a, an v H (Same.refl H) ⟨_, S, z, r.wP fun a p => .inl p⟩⟩
    · exact an.elim
  | false =>
    simp only [z, Bool.false_or] at ok
    refine PE.imp (modeM hE ok) fun σ H Q ⟨ρ, P, ev, an⟩ => ⟨ρ, P, ev, an.imp fun d _ q v H' S s nd fr' r => q v H' s ⟨0, [], Nat.zero_le _, r.shared (fr_le T e) (fun a p => p.1) fun a p => .inr (fr' a p)⟩⟩
end
end TW

/-! each form of a term -/
namespace TW
open PySem PySem.Spec PyProof.Rows L2
section
variable {X : Cx} {T : RTs} {F : Fs} {W : WX} {cl : Cl} {k : Nat} {c : Cn} {sc : Scope} {A : Lv} {P : AP}

theorem ofO_noexc {α : Type} (o : Option α) (n : Nat) (i : Int) : R.ofO o ≠ .exc n i := by
  cases o <;> simp [R.ofO]
theorem tru_noexc (d : D) (n : Nat) (i : Int) : tru d ≠ .exc n i := by
  cases d <;> simp [tru]; split <;> simp
theorem inD_noexc (a b : D) (n : Nat) (i : Int) : inD a b ≠ .exc n i := by
  cases b <;> simp only [inD, ne_eq, reduceCtorEq, not_false_eq_true]
  · cases a <;> simp; split <;> simp
  · split <;> simp
  · split <;> simp
theorem map_noexc {α β : Type} {r : R α} {f : α → β} (h : ∀ n i, r ≠ .exc n i) (n : Nat) (i : Int) : r.map f ≠ .exc n i := by
  cases r <;> simp [R.map, R.bind]
  exact absurd rfl (h _ _)
theorem cmp_noexc (o : CO) (a b : D) (n : Nat) (i : Int) : cmp o a b ≠ .exc n i := by
  cases o <;> simp only [cmp]
  · unfold R.iff; split <;> simp
  · unfold R.iff; split <;> simp
  · cases a <;> cases b <;> simp [ordD]
  · cases a <;> cases b <;> simp [ordD]
  · cases a <;> cases b <;> simp [ordD]
  · cases a <;> cases b <;> simp [ordD]
  · exact map_noexc (inD_noexc a b) n i
  · exact map_noexc (inD_noexc a b) n i
  · split <;> simp
  · split <;> simp
theorem cmp_bl {o : CO} {a b d : D} (e : cmp o a b = .ok d) : ∃ c, d = .bl c := by
  cases o <;> simp only [cmp] at e
  · obtain ⟨_, rfl⟩ := R.iff_ok e; exact ⟨_, rfl⟩
  · obtain ⟨_, rfl⟩ := R.iff_ok e; exact ⟨_, rfl⟩
  · cases a <;> cases b <;> simp [ordD] at e <;> exact ⟨_, e.symm⟩
  · cases a <;> cases b <;> simp [ordD] at e <;> exact ⟨_, e.symm⟩
  · cases a <;> cases b <;> simp [ordD] at e <;> exact ⟨_, e.symm⟩
  · cases a <;> cases b <;> simp [ordD] at e <;> exact ⟨_, e.symm⟩
  · obtain ⟨c, _, rfl⟩ := R.map_ok e; exact ⟨_, rfl⟩
  · obtain ⟨c, _, rfl⟩ := R.map_ok e; exact ⟨_, rfl⟩
  · split at e <;> cases e; exact ⟨_, rfl⟩
  · split at e <;> cases e; exact ⟨_, rfl⟩
theorem idx_noexc (a b : D) (n : Nat) (i : Int) : idx a b ≠ .exc n i := by
  cases a <;> cases b <;> simp only [idx, ne_eq, reduceCtorEq, not_false_eq_true]
  · split
    · exact ofO_noexc _ n i
    · simp
  · exact ofO_noexc _ n i
  · exact ofO_noexc _ n i
  · exact ofO_noexc _ n i
/-- term e stands for the expression ast -/
def Snd (X : Cx) (T : RTs) (F : Fs) (W : WX) (cl : Cl) (e : E) (ast : Expr) : Prop := ∀ A, okS T A e = true → PE X ast (tE X.K T F W cl A e)

theorem s_var {i : Nat} {ast : Expr} (g : GX X sc) (h : mE X.N c sc (.var i) ast = true) : Snd X T F W cl (.var i) ast := fun A ok => by
  refine PE.imp (pe_vr (N := X.N) g h) fun σ H Q ⟨ρ, P, ev, an⟩ => ?_
  simp only [okS, beq_iff_eq] at ok
  simp only [evE, lk] at an
  split at an
  · rename_i d ed
    obtain ⟨v, S, a, b, r⟩ := ev.get i d ed
    rw [ok] at r
    have e := Rp.nilS d r
    subst e
    exact ⟨v, a, Po.sh an r⟩
  · exact an.elim
theorem Po.cs {K : PySem.W.Frag} {H : Hp} {n : Nat} {Q : VK} (k : C) (h : Po K H P n k.d Q) : Q k.v H := by
  cases k
  · exact Po.non h
  · exact Po.bl h
  · exact Po.int h
  · exact Po.str h
theorem s_cst {k : C} {ast : Expr} (h : mE X.N c sc (.cst k) ast = true) : Snd X T F W cl (.cst k) ast := fun A ok => by
  cases ast <;> simp only [mE, reduceCtorEq] at h
  rename_i v _ _
  have key : ∀ σ H Q, tE X.K T F W cl A (.cst k) σ H Q → Q k.v H := fun σ H Q ⟨ρ, P, ev, an⟩ => Po.cs k an
  cases k <;> cases v <;> simp only [cOk, reduceCtorEq, beq_iff_eq] at h
  · exact PE.imp pe_non key
  · subst h; exact PE.imp pe_bl key
  · subst h; exact PE.imp pe_int key
  · subst h; exact PE.imp pe_str key
theorem s_glb {x : Str} {k : C} {ast : Expr} (xc : XC X n c T F cl) (g : GX X sc) (h : mE X.N c sc (.glb x k) ast = true) : Snd X T F W cl (.glb x k) ast := fun A ok => by
  cases ast <;> simp only [mE, reduceCtorEq] at h
  simp only [Bool.and_eq_true, beq_iff_eq, nameOk, bne_iff_ne, ne_eq] at h
  obtain ⟨⟨⟨rfl, h2⟩, h3⟩, h4, _⟩ := h
  obtain ⟨u, hu, r⟩ := xc.glb x k (List.contains_iff_mem.mp h3)
  exact PE.imp (pe_glob (g.gl _ h2) hu r (by simpa using h4)) fun σ H Q ⟨ρ, P, ev, an⟩ => Po.cs k an
theorem s_bin {o : BO} {a b : E} {x y : Expr} {pos : Pos} (ha : Snd X T F W cl a x) (hb : Snd X T F W cl b y) (g : GX X sc) (ma : mE X.N c sc a x = true) (mb : mE X.N c sc b y = true) : Snd X T F W cl (.bin o a b) (.BinOp x (opOf o) y pos) := fun A ok => by
  have main : okC T A a = true → okC T A b = true → 1 ≤ fr T (.bin o a b) → PE X (.BinOp x (opOf o) y pos) (fun σ H Q => ∃ ρ P, EV X.K A P ρ σ H ∧ An W cl σ H (evE F (.bin o a b) ρ) fun d => Po X.K H P 1 d Q) := fun oa ob _ => by
    refine PE.imp (pe_op (op_bin o) (modeC g ma ha (A := A) oa) (modeC g mb hb (A := A) ob)) fun σ H Q ⟨ρ, P, ev, an⟩ => ⟨ρ, P, ev, ?_⟩
    simp only [evE] at an
    refine an.bind.imp fun da _ an v H1 s1 ra => ⟨ρ, P, ev.same s1, an.bind.mono s1 fun db _ an u H2 s2 rb => ?_⟩
    cases e : bin o da db with
    | bad => rw [e] at an; exact an.elim
    | exc n i => exfalso; revert e; cases o <;> cases da <;> cases db <;> simp [bin, R.iff] <;> split <;> simp
    | ok d =>
      rw [e] at an
      have q : Po X.K H P 1 d Q := an
      exact ⟨fun a => P a ∨ H a = none, da, db, d, ra.same s2, rb.wP fun a p => p.imp id fun z => s1.free z, e, q.mono (s1.trans s2)⟩
  have free : fr T (.bin o a b) = 99 → PE X (.BinOp x (opOf o) y pos) (tE X.K T F W cl A (.bin o a b)) := fun e99 => by
    refine PE.imp (pe_op (op_bin o) (modeC g ma ha (A := []) (by simp [okC, okS_zr T a lv_nil])) (modeC g mb hb (A := []) (by simp [okC, okS_zr T b lv_nil]))) fun σ H Q ⟨ρ, P, ev, an⟩ => ⟨ρ, _, ev.free, ?_⟩
    simp only [evE] at an
    refine an.bind.imp fun da _ an v H1 s1 ra => ⟨ρ, _, ev.free.same s1, an.bind.mono s1 fun db _ an u H2 s2 rb => ?_⟩
    cases e : bin o da db with
    | bad => rw [e] at an; exact an.elim
    | exc n i => exfalso; revert e; cases o <;> cases da <;> cases db <;> simp [bin, R.iff] <;> split <;> simp
    | ok d =>
      rw [e] at an
      have q : Po X.K H P (fr T (.bin o a b)) d Q := an
      refine ⟨fun _ => True, da, db, d, (ra.same s2).wP fun _ _ => trivial, rb.wP fun _ _ => trivial, e, ?_⟩
      have hd : ∃ i, d = .int i := by
        revert e e99; cases o <;> cases da <;> cases db <;> simp [bin, R.iff, fr] <;> (try split) <;> (try simp) <;> (try (intro h; exact ⟨_, h.symm⟩))
      obtain ⟨i, rfl⟩ := hd
      intro v' H' S s nd fr' r
      cases r
      exact q _ H' [] ((s1.trans s2).trans s) .nil (fun _ z => nomatch z) (.int _)
  cases o
  · simp only [okS, Bool.and_eq_true] at ok
    exact main ok.1 ok.2 (by simp [fr])
  · exact free rfl
  · simp only [okS, Bool.and_eq_true] at ok
    exact main ok.1 ok.2 (by simp [fr])
  · exact free rfl
  · exact free rfl
  · exact free rfl
theorem s_neg {a : E} {x : Expr} {pos : Pos} (ha : Snd X T F W cl a x) : Snd X T F W cl (.neg a) (.UnaryOp .USub x pos) := fun A ok => by
  refine PE.imp (pe_un un_neg (modeA ha)) fun σ H Q ⟨ρ, P, ev, an⟩ => ⟨ρ, ev.free, ?_⟩
  simp only [evE] at an
  refine an.bind.imp fun d _ an v H1 s1 r => ?_
  cases d <;> simp only [An] at an
  have q : Po X.K H P (fr T (.neg a)) _ Q := an
  exact ⟨_, Ra.int r, (q.mono s1).int⟩
theorem s_cmp {o : CO} {a b : E} {x y : Expr} {pos : Pos} (hu : X.A.units + 70 < cLine) (ha : Snd X T F W cl a x) (hb : Snd X T F W cl b y) (py : plainX y = true) : Snd X T F W cl (.cmp o a b) (.Compare x [cmpOf o] [y] pos) := fun A ok => by
  refine PE.imp (pe_cmpR (op_cmp hu o) (modeA ha) (modeA hb) (mark_plain py _)) fun σ H Q ⟨ρ, P, ev, an⟩ => ⟨ρ, ev.free, ?_⟩
  simp only [evE] at an
  refine an.bind.imp fun da _ an v H1 s1 ra => ⟨ρ, ev.free.same s1, an.bind.mono s1 fun db _ an u H2 s2 rb => ?_⟩
  cases e : cmp o da db with
  | bad => rw [e] at an; exact an.elim
  | exc n i => exact absurd e (cmp_noexc o da db n i)
  | ok d =>
    rw [e] at an
    have q : Po X.K H P (fr T (.cmp o a b)) d Q := an
    obtain ⟨b', rfl⟩ := cmp_bl e
    refine ⟨da, db, _, ra.same s2, rb, e, fun v' H' s r => ?_⟩
    cases r
    exact (q.mono ((s1.trans s2).trans s)).bl
theorem s_chn {o p : CO} {a b d : E} {x y z : Expr} {pos : Pos} (hu : X.A.units + 70 < cLine) (ha : Snd X T F W cl a x) (hb : Snd X T F W cl b y) (hd : Snd X T F W cl d z) (py : plainX y = true) (pz : plainX z = true) :
    Snd X T F W cl (.chn o p a b d) (.Compare x [cmpOf o, cmpOf p] [y, z] pos) := fun A ok => by
  refine PE.imp (pe_chain (op_cmp hu o) (op_cmp hu p) (modeA ha) (modeA hb) (modeA hd) ?_) fun σ H Q ⟨ρ, P, ev, an⟩ => ⟨ρ, ev.free, ?_⟩
  · show behindInMarks (cmpOf p) z = false
    exact mark_plain pz _
  simp only [evE] at an
  refine an.bind.imp fun da _ an v H1 s1 ra => ⟨ρ, ev.free.same s1, an.bind.mono s1 fun db _ an u H2 s2 rb => ?_⟩
  have an := an.bind
  cases e : cmp o da db with
  | bad => rw [e] at an; exact an.elim
  | exc n i => exact absurd e (cmp_noexc o da db n i)
  | ok d' =>
    rw [e] at an
    obtain ⟨b', rfl⟩ := cmp_bl e
    refine ⟨da, db, _, ra.same s2, rb, e, fun v' H3 s3 r => ?_⟩
    cases r
    refine ⟨b', rfl, ?_⟩
    cases b' with
    | false =>
      refine iteF ?_
      have q : Po X.K H P (fr T (.chn o p a b d)) (.bl false) Q := an
      exact (q.mono ((s1.trans s2).trans s3)).bl
    | true =>
      refine iteT ⟨ρ, ev.free.same ((s1.trans s2).trans s3), ?_⟩
      have an : An W cl σ H ((evE F d ρ).bind fun z => cmp p db z) fun dr => Po X.K H P (fr T (.chn o p a b d)) dr Q := an
      refine an.bind.mono ((s1.trans s2).trans s3) fun dz _ an w H4 s4 rz => ?_
      cases e2 : cmp p db dz with
      | bad => rw [e2] at an; exact an.elim
      | exc n i => exact absurd e2 (cmp_noexc p db dz n i)
      | ok d2 =>
        rw [e2] at an
        have q : Po X.K H P (fr T (.chn o p a b d)) d2 Q := an
        obtain ⟨b2, rfl⟩ := cmp_bl e2
        refine ⟨db, dz, _, (rb.same s3).same s4, rz, e2, fun v' H' s r => ?_⟩
        cases r
        exact (q.mono ((((s1.trans s2).trans s3).trans s4).trans s)).bl
theorem s_not {a : E} {x : Expr} {pos : Pos} (ha : Snd X T F W cl a x) : Snd X T F W cl (.not a) (.UnaryOp .Not x pos) := fun A ok => by
  refine PE.imp (pe_notT (modeA ha)) fun σ H Q ⟨ρ, P, ev, an⟩ => ⟨ρ, ev.free, ?_⟩
  simp only [evE] at an
  refine an.bind.imp fun d _ an v H1 s1 r => ?_
  cases e : tru d with
  | bad => rw [e] at an; exact an.elim
  | exc n i => exact absurd e (tru_noexc d n i)
  | ok b =>
    rw [e] at an
    have q : Po X.K H P (fr T (.not a)) (.bl (!b)) Q := an
    exact ⟨b, tru_v r e, (q.mono s1).bl⟩
theorem s_idx {a i : E} {x y : Expr} {pos : Pos} (g : GX X sc) (ma : mE X.N c sc a x = true) (py : plainX y = true) (ha : Snd X T F W cl a x) (hi : Snd X T F W cl i y) : Snd X T F W cl (.idx a i) (.Subscript x y pos) := fun A ok => by
  refine PE.imp (pe_ix ix_any (modeC g ma ha (A := A) (by simpa [okS, okC] using ok)) (modeA hi) (ix_plain py)) fun σ H Q ⟨ρ, P, ev, an⟩ => ⟨ρ, P, ev, ?_⟩
  simp only [evE] at an
  refine an.bind.imp fun da _ an v H1 s1 ra => ⟨ρ, ev.free.same s1, an.bind.mono s1 fun db _ an u H2 s2 rb => ?_⟩
  cases e : idx da db with
  | bad => rw [e] at an; exact an.elim
  | exc n i => exact absurd e (idx_noexc da db n i)
  | ok d =>
    rw [e] at an
    have q : Po X.K H P 0 d Q := an
    exact ⟨_, da, db, d, ra.same s2, rb, e, q.mono (s1.trans s2)⟩
theorem s_ife {t a b : E} {x y z : Expr} {pos : Pos} (ht : PT X x (tTe X.K F W cl t)) (ha : Snd X T F W cl a y) (hb : Snd X T F W cl b z) : Snd X T F W cl (.ife t a b) (.IfExp x y z pos) := fun A ok => by
  simp only [okS, Bool.and_eq_true] at ok
  refine PE.imp (pe_ifExp ht (modeM ha (A := A) ok.1) (modeM hb (A := A) ok.2)) fun σ H Q ⟨ρ, P, ev, an⟩ => ⟨ρ, ev.free, ?_⟩
  simp only [evE] at an
  have an2 : An W cl σ H (((evE F t ρ).bind tru).bind fun k => if k = true then evE F a ρ else evE F b ρ) fun d => Po X.K H P (fr T (.ife t a b)) d Q := by
    cases q : evE F t ρ <;> (rw [q] at an; exact an)
  have la := fr_le T a
  have lb := fr_le T b
  refine an2.bind.imp fun kk _ an H1 s1 => ?_
  cases kk with
  | true =>
    have an : An W cl σ H (evE F a ρ) fun d => Po X.K H P (fr T (.ife t a b)) d Q := an
    refine iteT ⟨ρ, _, ev.same s1, an.mono s1 fun d _ q => ?_⟩
    exact fun v H' S s nd fr' r => (q.mono s1).use (by simp only [fr]; omega) la s nd fr' (r.wP fun a ⟨p, q⟩ => ⟨p.imp .inl id, q⟩)
  | false =>
    have an : An W cl σ H (evE F b ρ) fun d => Po X.K H P (fr T (.ife t a b)) d Q := an
    refine iteF ⟨ρ, _, ev.same s1, an.mono s1 fun d _ q => ?_⟩
    exact fun v H' S s nd fr' r => (q.mono s1).use (by simp only [fr]; omega) lb s nd fr' (r.wP fun a ⟨p, q⟩ => ⟨p.imp .inl id, q⟩)
/-- the arguments -/
def SndL (X : Cx) (T : RTs) (F : Fs) (W : WX) (cl : Cl) (es : L) (xs : List Expr) : Prop := ∀ A, okL T A es = true → PA X xs (tL X.K T F W cl A es)
theorem l_nil : SndL X T F W cl .nil [] := fun A ok => PA.imp pa_nil fun σ H Q ⟨ρ, P, ev, an⟩ => by
  have an : ∀ vs H' S, Same H H' → S.Nodup → (∀ a ∈ S, H a = none) → RpL X.K H' (fun a => (P a ∨ H a = none) ∧ a ∉ S) (frL T .nil) S vs [] → Q vs H' := an
  exact an [] H [] (Same.refl H) .nil (fun _ z => nomatch z) .nil
theorem l_cons {e : E} {es : L} {x : Expr} {xs : List Expr} (px : plainX x = true) (he : Snd X T F W cl e x) (hes : SndL X T F W cl es xs) : SndL X T F W cl (.cons e es) (x :: xs) := fun A ok => by
  simp only [okL, Bool.and_eq_true] at ok
  have le := fr_le T e
  have ls := frL_le T es
  refine PA.imp (pa_cons (modeM he (A := A) ok.1) (hes A ok.2) (star_cons px xs X.env)) fun σ H Q ⟨ρ, P, ev, an⟩ => ⟨ρ, P, ev, ?_⟩
  simp only [evL] at an
  refine an.bind.imp fun d _ an v H1 S1 s1 nd1 f1 r1 => ⟨ρ, _, ev.dom.same s1, an.bind.mono s1 fun ds _ q vs H2 S2 s2 nd2 f2 r2 => ?_⟩
  have q : ∀ vs H' S, Same H H' → S.Nodup → (∀ a ∈ S, H a = none) → RpL X.K H' (fun a => (P a ∨ H a = none) ∧ a ∉ S) (frL T (.cons e es)) S vs (d :: ds) → Q vs H' := q
  have hd : ∀ a ∈ S1, H1 a ≠ none := fun a ha => by obtain ⟨w, e⟩ := Rp.own d r1 a ha; rw [e]; simp
  have dj : ∀ a, H1 a ≠ none → a ∉ S2 := fun a ha z => ha (f2 a z)
  have r1' := (Rp.dom d r1).same s2
  obtain ⟨S1', b1, q1⟩ := Rp.weakN (m := min (fr T e) (frL T es)) d r1' (Nat.min_le_left _ _) le nd1
  obtain ⟨S2', b2, q2⟩ := RpL.weakN (m := min (fr T e) (frL T es)) ds r2 (Nat.min_le_right _ _) ls nd2
  refine q (v :: vs) H2 (S1' ++ S2') (s1.trans s2) ?_ ?_ ?_
  · refine List.nodup_append.mpr ⟨nd1.sublist b1, nd2.sublist b2, fun a ha b hb e => ?_⟩
    subst e
    exact dj a (hd a (b1.subset ha)) (b2.subset hb)
  · intro a ha
    rcases List.mem_append.mp ha with ha | ha
    · exact f1 a (b1.subset ha)
    · exact s1.free (f2 a (b2.subset ha))
  · simp only [frL]
    refine .cons (q1.wP fun a p => ?_) (q2.wP fun a p => ?_)
    · rcases p with ⟨⟨p1, p2⟩, p3⟩ | ⟨p1, p2⟩
      · exact ⟨p1, fun z => (List.mem_append.mp z).elim (fun z => p2 (b1.subset z)) fun z => dj a p3 (b2.subset z)⟩
      · exact ⟨.inr (f1 a p1), fun z => (List.mem_append.mp z).elim p2 fun z => dj a (hd a p1) (b2.subset z)⟩
    · rcases p with ⟨p1, p2⟩ | ⟨p1, p2⟩
      · refine ⟨p1.imp (fun z => z.1) fun z => s1.free z, fun z => (List.mem_append.mp z).elim (fun z => ?_) fun z => p2 (b2.subset z)⟩
        rcases p1 with p1 | p1
        · exact p1.2 (f1 a (b1.subset z))
        · exact hd a (b1.subset z) p1
      · exact ⟨.inr (s1.free (f2 a p1)), fun z => (List.mem_append.mp z).elim (fun z => dj a (hd a (b1.subset z)) p1) p2⟩
end
end TW

/-! each form of a term, further -/
namespace TW
open PySem PySem.Spec PyProof.Rows L2
section
variable {X : Cx} {T : RTs} {F : Fs} {W : WX} {cl : Cl} {k : Nat} {c : Cn} {sc : Scope}

theorem modeLA {es : L} {xs : List Expr} (hes : SndL X T F W cl es xs) : PA X xs (tLA X.K F W cl es) :=
  PA.imp (hes [] (okL_zr T es lv_nil)) fun σ H Q ⟨ρ, ev, an⟩ => ⟨ρ, _, ev, an.imp fun ds _ q vs H' S s nd f r => q vs H' s (r.ra (frL_le T es))⟩
theorem s_lst {es : L} {xs : List Expr} {pos : Pos} (hes : SndL X T F W cl es xs) : Snd X T F W cl (.lst es) (.List xs pos) := fun A ok => by
  have ls := frL_le T es
  refine PE.imp (pe_lst (hes A ok)) fun σ H Q ⟨ρ, P, ev, an⟩ => ⟨ρ, P, ev, ?_⟩
  simp only [evE] at an
  refine an.bind.imp fun ds _ an vs H1 S s nd f r => ?_
  split at an
  · rename_i hl
    have q : Po X.K H P (fr T (.lst es)) (.lst ds) Q := an
    refine ⟨by rw [sizeLine_LIM, r.len]; exact hl, fun p hp => ?_⟩
    have nS : p ∉ S := fun z => by obtain ⟨w, e⟩ := RpL.own ds r p z; rw [hp] at e; cases e
    obtain ⟨S', sub, q'⟩ := RpL.weakN ds ((RpL.dom ds r).same (same_upd (o := .lst vs) hp)) (dn_up ls) ls nd
    refine q (.ref p) _ (p :: S') (s.trans (same_upd hp)) (List.nodup_cons.mpr ⟨fun z => nS (sub.subset z), nd.sublist sub⟩) (fun a ha => ?_) ?_
    · rcases List.mem_cons.mp ha with rfl | ha
      · exact s.free hp
      · exact f a (sub.subset ha)
    · simp only [fr]
      refine .ow (up_ne _) (up_le ls) upd_same (q'.wP fun a z => ?_)
      rcases z with ⟨⟨z1, z2⟩, z3⟩ | ⟨z1, z2⟩
      · refine ⟨z1, fun w => ?_⟩
        rcases List.mem_cons.mp w with rfl | w
        · exact z3 hp
        · exact z2 (sub.subset w)
      · refine ⟨.inr (f a z1), fun w => ?_⟩
        rcases List.mem_cons.mp w with rfl | w
        · exact nS z1
        · exact z2 w
  · exact an.elim
theorem s_tup {es : L} {xs : List Expr} {n : Nat} {pos : Pos} (hes : SndL X T F W cl es xs) : Snd X T F W cl (.tup es) (.Tuple xs n pos) := fun A ok => by
  have ls := frL_le T es
  refine PE.imp (pe_tup (hes A ok)) fun σ H Q ⟨ρ, P, ev, an⟩ => ⟨ρ, P, ev, ?_⟩
  simp only [evE] at an
  refine an.bind.imp fun ds _ an vs H1 S s nd f r => ?_
  split at an
  · rename_i hl
    have q : Po X.K H P (fr T (.tup es)) (.tup ds) Q := an
    refine ⟨by rw [sizeLine_LIM, r.len]; exact hl, fun p hp => ?_⟩
    obtain ⟨S', sub, q'⟩ := RpL.weakN ds (r.same (same_upd (o := .tup vs) hp)) (tn_le (frL T es)) ls nd
    refine q (.ref p) _ S' (s.trans (same_upd hp)) (nd.sublist sub) (fun a ha => f a (sub.subset ha)) ?_
    simp only [fr]
    refine .tup (.inl (.inl upd_same)) ?_
    rw [show tn (tn (frL T es)) = tn (frL T es) by unfold tn; split <;> simp]
    refine q'.wP fun a z => ?_
    rcases z with ⟨z1, z2⟩ | ⟨z1, z2⟩
    · exact ⟨z1, fun w => z2 (sub.subset w)⟩
    · exact ⟨.inr (f a z1), z2⟩
  · exact an.elim
/-- a part of a slice -/
def SndO (X : Cx) (F : Fs) (W : WX) (cl : Cl) (o : O) (x : Option Expr) : Prop := PO X x (fun σ H Q => ∃ ρ, EV X.K [] (fun _ => True) ρ σ H ∧ An W cl σ H (evO F o ρ) fun i => ∀ H', Same H H' → Q i H')
theorem o_no : SndO X F W cl .no none := ⟨fun pins s σ H Q I h => po_none.run pins s σ H Q I (let ⟨ρ, ev, an⟩ := h; by
    have an : ∀ H', Same H H' → Q none H' := an
    exact an H (Same.refl H))⟩
theorem o_so {e : E} {x : Expr} (he : Snd X T F W cl e x) : SndO X F W cl (.so e) (some x) := ⟨fun pins s σ H Q I h => (po_some (modeA he)).run pins s σ H Q I (let ⟨ρ, ev, an⟩ := h; by
    simp only [evO] at an
    refine ⟨ρ, ev, an.bind.imp fun d _ an v H1 s1 r => ?_⟩
    cases d <;> simp only [part, An] at an
    exact ⟨_, Ra.int r, an H1 s1⟩)⟩
theorem slc_noexc (a : D) (l h : Option Int) (n : Nat) (i : Int) : slc a l h ≠ .exc n i := by
  cases a <;> simp [slc]; split <;> simp
theorem s_slc {a : E} {lo hi : O} {x : Expr} {l h : Option Expr} {p2 pos : Pos} (g : GX X sc) (ma : mE X.N c sc a x = true) (ha : Snd X T F W cl a x) (hl : SndO X F W cl lo l) (hh : SndO X F W cl hi h) : Snd X T F W cl (.slc a lo hi) (.Subscript x (.Slice l h none p2) pos) := fun A ok => by
  refine PE.imp (pe_slice sl_any (modeC g ma ha (A := A) (by simpa [okS, okC] using ok)) hl hh) fun σ H Q ⟨ρ, P, ev, an⟩ => ⟨ρ, P, ev, ?_⟩
  simp only [evE] at an
  refine an.bind.imp fun da _ an v H1 s1 ra => ⟨ρ, ev.free.same s1, an.bind.mono s1 fun lo' _ an H2 s2 => ⟨ρ, ev.free.same (s1.trans s2), an.bind.mono (s1.trans s2 : Same _ _) fun hi' _ an H3 s3 => ?_⟩⟩
  cases e : slc da lo' hi' with
  | bad => rw [e] at an; exact an.elim
  | exc n i => exact absurd e (slc_noexc _ _ _ _ _)
  | ok d =>
    rw [e] at an
    have q : Po X.K H P 1 d Q := an
    exact ⟨_, da, d, (ra.same s2).same s3, e, q.mono ((s1.trans s2).trans s3)⟩
theorem call1_noexc (f : B1) (a : D) (n : Nat) (i : Int) : call1 f a ≠ .exc n i := by
  cases f <;> cases a <;> simp only [call1, ne_eq, reduceCtorEq, not_false_eq_true] <;> first | exact ofO_noexc _ n i | (unfold R.iff; split <;> simp) | (split <;> simp)
theorem call1_sc {f : B1} {a d : D} (h : lv1 f = 99) (e : call1 f a = .ok d) : flat d = true := by
  cases f <;> simp [lv1] at h <;> cases a <;> simp only [call1, reduceCtorEq] at e
  all_goals first
    | (cases e; rfl)
    | (split at e <;> cases e; rfl)
    | (obtain ⟨_, rfl⟩ := R.iff_ok e; rfl)
    | (have e := R.ofO_ok e; rw [Option.map_eq_some_iff] at e; obtain ⟨_, _, rfl⟩ := e; rfl)
/-- a flat value's place does not matter -/
theorem Po.flatP {K : PySem.W.Frag} {H H1 : Hp} {P P' : AP} {n m : Nat} {d : D} {Q : VK} (h : Po K H P n d Q) (fd : flat d = true) (s : Same H H1) : Po K H1 P' m d Q := fun v H' S s' nd f r => by
  have key : Rp K H' (fun _ => False) n [] v d ∧ True := by
    cases d <;> simp only [flat, reduceCtorEq] at fd <;> cases r
    · exact ⟨.non, trivial⟩
    · exact ⟨.bl _, trivial⟩
    · exact ⟨.int _, trivial⟩
    · exact ⟨.str _, trivial⟩
  exact h v H' [] (s.trans s') .nil (fun _ z => nomatch z) (key.1.wP fun _ z => z.elim)
theorem bn_mem (f : B1) : nm1 f ∈ bltNames := by cases f <;> decide
theorem bn2_mem (f : B2) : nm2 f ∈ bltNames := by cases f <;> decide
theorem nm1_ne (f : B1) : Str.ofString (nm1 f) ≠ "__name__" ∧ (Str.ofString (nm1 f) == ("__debug__" : Str)) = false := by cases f <;> decide +kernel
theorem nm2_ne (f : B2) : Str.ofString (nm2 f) ≠ "__name__" ∧ (Str.ofString (nm2 f) == ("__debug__" : Str)) = false := by cases f <;> decide +kernel
theorem s_c1 {f : B1} {a : E} {y : Expr} {p pos : Pos} (xc : XC X k c T F cl) (g : GX X sc) (hg : glB sc (Str.ofString (nm1 f)) = true) (ma : mE X.N c sc a y = true) (ha : Snd X T F W cl a y) : Snd X T F W cl (.c1 f a) (.Call (.Name (Str.ofString (nm1 f)) p) [y] [] pos) := fun A ok => by
  have py := mE_plain ma
  have core : ∀ A', okC T A' a = true → PE X (.Call (.Name (Str.ofString (nm1 f)) p) [y] [] pos) (tCB (rC1 X.K f) (tCons (tC X.K F W cl A' a) tNil)) := fun A' oa => by
    have st := star_cons py [] X.env
    have hv := boot1 f
    have hm := xc.blt _ (bn_mem f)
    have pa := pa_cons (modeC g ma ha (A := A') oa) pa_nil st
    have cr := cr_1 xc.calm xc.gu xc.units f
    revert cr hv
    cases f <;> intro hv cr
    all_goals first
      | exact pe_callB cr (g.gl _ hg) hm hv pa (nm1_ne _).1 (nm1_ne _).2 st rfl
      | exact pe_callTy cr (g.gl _ hg) hm hv pa (nm1_ne _).1 (nm1_ne _).2 st rfl
  simp only [okS, Bool.or_eq_true, beq_iff_eq] at ok
  by_cases h99 : lv1 f = 99
  · refine PE.imp (core [] (by simp [okC, okS_zr T a lv_nil])) fun σ H Q ⟨ρ, P, ev, an⟩ => ⟨ρ, _, ev.free, ?_⟩
    simp only [evE] at an
    refine an.bind.imp fun da _ an v H1 s1 ra => ?_
    cases e : call1 f da with
    | bad => rw [e] at an; exact an.elim
    | exc n i => exact absurd e (call1_noexc _ _ _ _)
    | ok d =>
      rw [e] at an
      have q : Po X.K H P (fr T (.c1 f a)) d Q := an
      exact ⟨_, v, da, d, rfl, ra, e, q.flatP (call1_sc h99 e) s1⟩
  · have oa : okC T A a = true := by
      rcases ok with ok | ok
      · exact absurd ok h99
      · simpa [okC] using ok
    refine PE.imp (core A oa) fun σ H Q ⟨ρ, P, ev, an⟩ => ⟨ρ, P, ev, ?_⟩
    simp only [evE] at an
    refine an.bind.imp fun da _ an v H1 s1 ra => ?_
    cases e : call1 f da with
    | bad => rw [e] at an; exact an.elim
    | exc n i => exact absurd e (call1_noexc _ _ _ _)
    | ok d =>
      rw [e] at an
      have q : Po X.K H P (lv1 f) d Q := an
      exact ⟨_, v, da, d, rfl, ra, e, q.mono s1⟩
theorem s_c2 {f : B2} {a b : E} {y z : Expr} {p pos : Pos} (xc : XC X k c T F cl) (g : GX X sc) (hg : glB sc (Str.ofString (nm2 f)) = true) (py : plainX y = true) (pz : plainX z = true) (ha : Snd X T F W cl a y) (hb : Snd X T F W cl b z) :
    Snd X T F W cl (.c2 f a b) (.Call (.Name (Str.ofString (nm2 f)) p) [y, z] [] pos) := fun A ok => by
  have st := star_cons py [z] X.env
  have st2 := star_cons pz [] X.env
  refine PE.imp (pe_callB (cr_2 xc.calm f) (g.gl _ hg) (xc.blt _ (bn2_mem f)) (boot2 f) (pa_cons (modeA ha) (pa_cons (modeA hb) pa_nil st2) st) (nm2_ne _).1 (nm2_ne _).2 st (by rw [st2]; rfl)) fun σ H Q ⟨ρ, P, ev, an⟩ => ⟨ρ, ev.free, ?_⟩
  simp only [evE] at an
  refine an.bind.imp fun da _ an v H1 s1 ra => ⟨ρ, ev.free.same s1, an.bind.mono s1 fun db _ an u H2 s2 rb => ?_⟩
  cases e : call2 f da db with
  | bad => rw [e] at an; exact an.elim
  | exc n i => exfalso; revert e; cases f <;> cases da <;> cases db <;> simp [call2]
  | ok d =>
    rw [e] at an
    have q : Po X.K H P (fr T (.c2 f a b)) d Q := an
    cases da <;> cases db <;> (try (exfalso; revert e; cases f <;> simp [call2]; done))
    have hd : ∃ i, d = .int i := by revert e; cases f <;> simp only [call2] <;> intro e <;> cases e <;> exact ⟨_, rfl⟩
    obtain ⟨i, rfl⟩ := hd
    exact ⟨v, u, _, _, _, rfl, Ra.int ra, Ra.int rb, e, (q.mono (s1.trans s2)).int⟩
theorem s_mth {m : M1} {a b : E} {o y : Expr} {apos pos : Pos} (po : plainO o = true) (hl : (apos.endLine == pos.line) = true) (py : plainX y = true) (ha : Snd X T F W cl a o) (hb : Snd X T F W cl b y) : Snd X T F W cl (.mth m a b) (.Call (.Attribute o "join" apos) [y] [] pos) := fun A ok => by
  refine PE.imp (pe_join (modeA ha) (modeA hb) (star_cons py [] X.env) (plainO_base po _ _) hl) fun σ H Q ⟨ρ, P, ev, an⟩ => ⟨ρ, ev.free, ?_⟩
  simp only [evE] at an
  cases m
  refine an.bind.imp fun da _ an v H1 s1 ra => ?_
  cases da <;> simp only [mthR, R.bind, An] at an
  rename_i z _
  refine ⟨⟨z, Ra.str ra⟩, ρ, ev.free.same s1, ?_⟩
  have an : An W cl σ H ((evE F b ρ).bind fun y => mth M1.join (.str z) y) fun d => Po X.K H P (fr T (E.mth M1.join a b)) d Q := an
  refine an.bind.mono s1 fun db _ an u H2 s2 rb => ?_
  cases db <;> try exact an.elim
  rename_i ds _
  have an : An W cl σ H (match strsD ds with | some ys => if (ys.map (·.length)).sum + ys.length * z.length ≤ LIM then R.ok (D.str (Txt.join z ys)) else .bad | none => .bad) fun d => Po X.K H P (fr T (E.mth M1.join a b)) d Q := an
  cases ey : strsD ds with
  | none => rw [ey] at an; exact an.elim
  | some ys =>
    rw [ey] at an
    dsimp only at an
    by_cases hz : (ys.map (·.length)).sum + ys.length * z.length ≤ LIM
    · rw [if_pos hz] at an
      have q : Po X.K H P (fr T (E.mth M1.join a b)) (.str (Txt.join z ys)) Q := an
      obtain ⟨p, vs, rfl, hl', il⟩ := Ra.lst rb
      have ev := strsD_v il ey
      subst ev
      exact ⟨z, p, ys, Ra.str ra, rfl, .inl (SqL.of hl'), hz, (q.mono (s1.trans s2)).str⟩
    · rw [if_neg hz] at an
      exact an.elim
theorem s_fn {f : Nat} {x : Str} {es : L} {ys : List Expr} {p pos : Pos} (xc : XC X k c T F cl) (g : GX X sc) (tk : Takes X W) (hg : glB sc x = true) (hf : c.fs[f]? = some x) (hn : (x == ("__debug__" : Str)) = false)
    (ml : mL X.N c sc es ys = true) (hes : SndL X T F W cl es ys) : Snd X T F W cl (.fn f x es) (.Call (.Name x p) ys [] pos) := fun A ok => by
  obtain ⟨a, fd, ps, hm, hk, hb, FG⟩ := xc.fns f x hf
  have core : ∀ A', okL T A' es = true → PE X (.Call (.Name x p) ys [] pos) (fun σ H Q => tL X.K T F W cl A' es σ H fun vs H1 => spF X.K T F cl f vs H1 Q (WE W σ)) := fun A' oa => by
    cases es with
    | nil =>
      cases ys with
      | nil =>
        refine PE.imp (pe_callG0 FG xc.room xc.gu hb tk (g.gl _ hg) hm hk hn) fun σ H Q ⟨ρ, P, ev, an⟩ => ?_
        have an : ∀ vs H' S, Same H H' → S.Nodup → (∀ a ∈ S, H a = none) → RpL X.K H' (fun a => (P a ∨ H a = none) ∧ a ∉ S) (frL T .nil) S vs [] → spF X.K T F cl f vs H' Q (WE W σ) := an
        exact an [] H [] (Same.refl H) .nil (fun _ z => nomatch z) .nil
      | cons y ys => simp [mL] at ml
    | cons e es =>
      cases ys with
      | nil => simp [mL] at ml
      | cons y ys =>
        have ml' := ml
        simp only [mL, Bool.and_eq_true] at ml'
        exact pe_callG FG xc.room xc.gu hb tk (g.gl _ hg) hm hk hn (hes A' oa) (star_cons (mE_plain ml'.1) ys X.env) (mL_any ml'.2)
  have fin : ∀ {σ : L2.St} {H H1 : Hp} {Q : VK} {ds : List D} {P : AP}, Same H H1 → An W cl σ H (F f ds) (fun d => Po X.K H1 P (min (T f) 99) d Q) → ∀ {vs : List V}, RpL X.K H1 P 0 [] vs ds → spF X.K T F cl f vs H1 Q (WE W σ) := fun {σ H H1 Q ds P} s an {vs} r => by
    refine ⟨P, ds, r, ?_⟩
    cases e : F f ds with
    | ok d => rw [e] at an; exact an
    | exc n i => rw [e] at an; exact fun H' dd s' e' => an H' dd (s.trans s') e'
    | bad => rw [e] at an; exact an.elim
  have ls := frL_le T es
  simp only [okS, Bool.or_eq_true, decide_eq_true_eq] at ok
  by_cases h99 : 99 ≤ T f
  · refine PE.imp (core [] (okL_zr T es lv_nil)) fun σ H Q ⟨ρ, P, ev, an⟩ => ⟨ρ, _, ev.free, ?_⟩
    simp only [evE] at an
    refine an.bind.imp fun ds _ an vs H1 S s1 nd f' r => fin s1 (P := fun _ => True) (an.imp fun d _ q => ?_) (r.ra ls)
    have q : Po X.K H P (min (T f) 99) d Q := q
    rw [show min (T f) 99 = 99 by omega] at q ⊢
    exact fun v H' S' s nd fr' r => q v H' S' (s1.trans s) nd (fun a z => s1.free (fr' a z)) (Rp.all d r)
  · have oa : okL T A es = true := by
      rcases ok with ok | ok
      · exact absurd ok h99
      · exact ok
    refine PE.imp (core A oa) fun σ H Q ⟨ρ, P, ev, an⟩ => ⟨ρ, P, ev, ?_⟩
    simp only [evE] at an
    refine an.bind.imp fun ds _ an vs H1 S s1 nd f' r => fin s1 (P := fun a => P a ∨ H a = none) (an.imp fun d _ q => ?_) (r.shared ls (fun a p => p.1) fun a p => .inr (f' a p))
    have q : Po X.K H P (min (T f) 99) d Q := q
    exact q.mono s1
/-! ### and, or; tests -/
def tAndV' (K : PySem.W.Frag) (T : RTs) (F : Fs) (W : WX) (cl : Cl) (A : Lv) (e : E) (es : L) (ev : L → En → D → R D) : TE := fun σ H Q => ∃ ρ P, EV K A P ρ σ H ∧ An W cl σ H ((evE F e ρ).bind fun x => ev es ρ x) fun d => Po K H P (min (fr T e) (frL T es)) d Q
def SndAll (X : Cx) (T : RTs) (F : Fs) (W : WX) (cl : Cl) : L → List Expr → Prop
  | .nil, [] => True
  | .cons e es, x :: xs => Snd X T F W cl e x ∧ SndAll X T F W cl es xs
  | _, _ => False
/-- e stands for ast as a test -/
def SndT (X : Cx) (F : Fs) (W : WX) (cl : Cl) (e : E) (ast : Expr) : Prop := PT X ast (tTe X.K F W cl e)
def SndTAll (X : Cx) (F : Fs) (W : WX) (cl : Cl) : L → List Expr → Prop
  | .nil, [] => True
  | .cons e es, x :: xs => SndT X F W cl e x ∧ SndTAll X F W cl es xs
  | _, _ => False
theorem and_chain : ∀ {es : L} {xs : List Expr} {e : E} {x : Expr} {pos : Pos} {A : Lv}, Snd X T F W cl e x → okM T A e = true → okL T A es = true → SndAll X T F W cl es xs → PE X (.BoolOp .And (x :: xs) pos) (tAndV' X.K T F W cl A e es (evAnd F))
  | .nil, [], e, x, pos, A, he, oe, _, _ => PE.imp (pe_one (modeM he oe)) fun σ H Q ⟨ρ, P, ev, an⟩ => ⟨ρ, P, ev, an.bind.imp fun d _ q => by
      have le := fr_le T e
      have q : Po X.K H P (min (fr T e) (frL T .nil)) d Q := q
      simp only [frL] at q
      rwa [Nat.min_eq_left le] at q⟩
  | .cons e' es, y :: ys, e, x, pos, A, he, oe, ol, hs => by
    simp only [okL, Bool.and_eq_true] at ol
    have le := fr_le T e
    refine PE.imp (pe_andT (modeM he oe) (and_chain (pos := pos) (A := A) hs.1 ol.1 ol.2 hs.2)) fun σ H Q ⟨ρ, P, ev, an⟩ => ⟨ρ, P, ev, an.bind.imp fun d _ an => ?_⟩
    intro v H1 S s nd f r
    simp only [evAnd] at an
    cases e1 : tru d with
    | bad => rw [e1] at an; exact an.elim
    | exc n i => exact absurd e1 (tru_noexc d n i)
    | ok b =>
      rw [e1] at an
      refine ⟨b, tru_v (r.ra le) e1, ?_⟩
      cases b with
      | true =>
        have an : An W cl σ H ((evE F e' ρ).bind fun y => evAnd F es ρ y) fun d => Po X.K H P (min (fr T e) (frL T (.cons e' es))) d Q := an
        refine iteT ⟨ρ, _, ev.same s, an.mono s fun d2 _ q => ?_⟩
        have l1 := fr_le T e'
        simp only [frL] at q
        exact fun v H' S s' nd fr' r => (q.mono s).use (by omega) (by omega) s' nd fr' (r.wP fun a ⟨p, q⟩ => ⟨p.imp .inl id, q⟩)
      | false =>
        have q : Po X.K H P (min (fr T e) (frL T (.cons e' es))) d Q := an
        exact iteF (q.use (Nat.min_le_left _ _) le s nd f r)
  | .nil, _ :: _, _, _, _, _, _, _, _, hs => hs.elim
  | .cons _ _, [], _, _, _, _, _, _, _, hs => hs.elim
theorem or_chain : ∀ {es : L} {xs : List Expr} {e : E} {x : Expr} {pos : Pos} {A : Lv}, Snd X T F W cl e x → okM T A e = true → okL T A es = true → SndAll X T F W cl es xs → PE X (.BoolOp .Or (x :: xs) pos) (tAndV' X.K T F W cl A e es (evOr F))
  | .nil, [], e, x, pos, A, he, oe, _, _ => PE.imp (pe_one (modeM he oe)) fun σ H Q ⟨ρ, P, ev, an⟩ => ⟨ρ, P, ev, an.bind.imp fun d _ q => by
      have le := fr_le T e
      have q : Po X.K H P (min (fr T e) (frL T .nil)) d Q := q
      simp only [frL] at q
      rwa [Nat.min_eq_left le] at q⟩
  | .cons e' es, y :: ys, e, x, pos, A, he, oe, ol, hs => by
    simp only [okL, Bool.and_eq_true] at ol
    have le := fr_le T e
    refine PE.imp (pe_orT (modeM he oe) (or_chain (pos := pos) (A := A) hs.1 ol.1 ol.2 hs.2)) fun σ H Q ⟨ρ, P, ev, an⟩ => ⟨ρ, P, ev, an.bind.imp fun d _ an => ?_⟩
    intro v H1 S s nd f r
    simp only [evOr] at an
    cases e1 : tru d with
    | bad => rw [e1] at an; exact an.elim
    | exc n i => exact absurd e1 (tru_noexc d n i)
    | ok b =>
      rw [e1] at an
      refine ⟨b, tru_v (r.ra le) e1, ?_⟩
      cases b with
      | false =>
        have an : An W cl σ H ((evE F e' ρ).bind fun y => evOr F es ρ y) fun d => Po X.K H P (min (fr T e) (frL T (.cons e' es))) d Q := an
        refine iteF ⟨ρ, _, ev.same s, an.mono s fun d2 _ q => ?_⟩
        have l1 := fr_le T e'
        simp only [frL] at q
        exact fun v H' S s' nd fr' r => (q.mono s).use (by omega) (by omega) s' nd fr' (r.wP fun a ⟨p, q⟩ => ⟨p.imp .inl id, q⟩)
      | true =>
        have q : Po X.K H P (min (fr T e) (frL T (.cons e' es))) d Q := an
        exact iteT (q.use (Nat.min_le_left _ _) le s nd f r)
  | .nil, _ :: _, _, _, _, _, _, _, _, hs => hs.elim
  | .cons _ _, [], _, _, _, _, _, _, _, hs => hs.elim
theorem s_and {e : E} {es : L} {x : Expr} {xs : List Expr} {pos : Pos} (he : Snd X T F W cl e x) (hs : SndAll X T F W cl es xs) : Snd X T F W cl (.and e es) (.BoolOp .And (x :: xs) pos) := fun A ok => by
  simp only [okS, Bool.and_eq_true] at ok
  exact PE.imp (and_chain he ok.1 ok.2 hs) fun σ H Q ⟨ρ, P, ev, an⟩ => ⟨ρ, P, ev, an⟩
theorem s_or {e : E} {es : L} {x : Expr} {xs : List Expr} {pos : Pos} (he : Snd X T F W cl e x) (hs : SndAll X T F W cl es xs) : Snd X T F W cl (.or e es) (.BoolOp .Or (x :: xs) pos) := fun A ok => by
  simp only [okS, Bool.and_eq_true] at ok
  exact PE.imp (or_chain he ok.1 ok.2 hs) fun σ H Q ⟨ρ, P, ev, an⟩ => ⟨ρ, P, ev, an⟩
/-! tests -/
def plainT : Expr → Bool
  | .UnaryOp .Not _ _ => false
  | .BoolOp _ _ _ => false
  | .IfExp _ _ _ _ => false
  | .Compare _ _ _ _ => false
  | _ => true
theorem t_plain {e : E} {x : Expr} (h : plainT x = true) (he : Snd X T F W cl e x) : SndT X F W cl e x := by
  refine PT.imp (pt_truth (modeA he) ?_) fun σ H Q ⟨ρ, ev, an⟩ => ⟨ρ, ev, ?_⟩
  · cases x <;> first
      | (intro _; rfl)
      | (simp [plainT] at h; done)
      | (rename_i op _ _; cases op <;> first | (intro _; rfl) | (simp [plainT] at h))
  · refine an.bind.imp fun d _ an v H1 s1 r => ?_
    cases e1 : tru d with
    | bad => rw [e1] at an; exact an.elim
    | exc n i => exact absurd e1 (tru_noexc d n i)
    | ok b =>
      rw [e1] at an
      exact ⟨b, tru_v r e1, an H1 s1⟩
theorem t_not {a : E} {x : Expr} {pos : Pos} (ha : SndT X F W cl a x) : SndT X F W cl (.not a) (.UnaryOp .Not x pos) := by
  refine PT.imp (pt_not ha) fun σ H Q ⟨ρ, ev, an⟩ => ⟨ρ, ev, ?_⟩
  simp only [evE] at an
  have an2 : An W cl σ H (((evE F a ρ).bind tru).bind fun k => (R.ok (.bl (!k))).bind tru) fun k => ∀ H', Same H H' → Q k H' := by
    cases q : evE F a ρ with
    | ok d => rw [q] at an; simp only [R.bind] at an ⊢; cases q2 : tru d <;> (rw [q2] at an; exact an)
    | exc n i => rw [q] at an; exact an
    | bad => rw [q] at an; exact an
  exact an2.bind.imp fun k _ q => q
theorem t_cmp {o : CO} {a b : E} {x y : Expr} {pos : Pos} (hu : X.A.units + 70 < cLine) (ha : Snd X T F W cl a x) (hb : Snd X T F W cl b y) (py : plainX y = true) : SndT X F W cl (.cmp o a b) (.Compare x [cmpOf o] [y] pos) := by
  refine PT.imp (pt_cmpR (op_cmp hu o) (modeA ha) (modeA hb) (mark_plain py _)) fun σ H Q ⟨ρ, ev, an⟩ => ⟨ρ, ev, ?_⟩
  simp only [evE] at an
  refine (An.bind an).bind.imp fun da _ an v H1 s1 ra => ⟨ρ, ev.same s1, An.mono (An.bind an) s1 fun db _ an u H2 s2 rb => ?_⟩
  cases e : cmp o da db with
  | bad => rw [e] at an; exact an.elim
  | exc n i => exact absurd e (cmp_noexc o da db n i)
  | ok d =>
    rw [e] at an
    obtain ⟨b', rfl⟩ := cmp_bl e
    have q : ∀ H', Same H H' → Q b' H' := an
    refine ⟨da, db, _, ra.same s2, rb, e, fun v' H' s r => ?_⟩
    cases r
    exact ⟨b', rfl, q H' ((s1.trans s2).trans s)⟩
theorem t_chn {o p : CO} {a b d : E} {x y z : Expr} {pos : Pos} (hu : X.A.units + 70 < cLine) (ha : Snd X T F W cl a x) (hb : Snd X T F W cl b y) (hd : Snd X T F W cl d z) (py : plainX y = true) (pz : plainX z = true) :
    SndT X F W cl (.chn o p a b d) (.Compare x [cmpOf o, cmpOf p] [y, z] pos) := by
  refine PT.imp (pt_chain (op_cmp hu o) (op_cmp hu p) (modeA ha) (modeA hb) (modeA hd) ?_) fun σ H Q ⟨ρ, ev, an⟩ => ⟨ρ, ev, ?_⟩
  · show behindInMarks (cmpOf p) z = false
    exact mark_plain pz _
  simp only [evE] at an
  refine (An.bind an).bind.imp fun da _ an v H1 s1 ra => ⟨ρ, ev.same s1, An.mono (An.bind an) s1 fun db _ an u H2 s2 rb => ?_⟩
  have an := An.bind an
  cases e : cmp o da db with
  | bad => rw [e] at an; exact an.elim
  | exc n i => exact absurd e (cmp_noexc o da db n i)
  | ok d' =>
    rw [e] at an
    obtain ⟨b', rfl⟩ := cmp_bl e
    refine ⟨da, db, _, ra.same s2, rb, e, fun v' H3 s3 r => ?_⟩
    cases r
    refine ⟨b', rfl, ?_⟩
    cases b' with
    | false =>
      have q : ∀ H', Same H H' → Q false H' := an
      exact iteF ⟨false, rfl, q H3 ((s1.trans s2).trans s3)⟩
    | true =>
      refine iteT ⟨ρ, ev.same ((s1.trans s2).trans s3), ?_⟩
      have an : An W cl σ H ((evE F d ρ).bind fun z => cmp p db z) fun a => An W cl σ H (tru a) fun k => ∀ H', Same H H' → Q k H' := an
      refine An.mono (An.bind an) ((s1.trans s2).trans s3) fun dz _ an w H4 s4 rz => ?_
      cases e2 : cmp p db dz with
      | bad => rw [e2] at an; exact an.elim
      | exc n i => exact absurd e2 (cmp_noexc p db dz n i)
      | ok d2 =>
        rw [e2] at an
        obtain ⟨b2, rfl⟩ := cmp_bl e2
        have q : ∀ H', Same H H' → Q b2 H' := an
        refine ⟨db, dz, _, (rb.same s3).same s4, rz, e2, fun v' H' s r => ?_⟩
        cases r
        exact ⟨b2, rfl, q H' ((((s1.trans s2).trans s3).trans s4).trans s)⟩
theorem R.bind_assoc {α β γ : Type} (r : R α) (f : α → R β) (g : β → R γ) : (r.bind f).bind g = r.bind fun a => (f a).bind g := by
  cases r <;> rfl
theorem t_ife {t a b : E} {x y z : Expr} {pos : Pos} (ht : SndT X F W cl t x) (ha : SndT X F W cl a y) (hb : SndT X F W cl b z) : SndT X F W cl (.ife t a b) (.IfExp x y z pos) := by
  refine ⟨fun pins s σ H Q I h => ?_⟩
  obtain ⟨ρ, ev, an⟩ := h
  simp only [evE, R.bind_assoc] at an
  show wpAny _ _ (do if ← isTrue x X.env (eval x X.env) then isTrue y X.env (eval y X.env) else isTrue z X.env (eval z X.env)) _ _ _
  refine wpAny_bind (thn (ht.run pins s σ H (fun k H1 => Same H H1 ∧ An W cl σ H (if k = true then (evE F a ρ).bind tru else (evE F b ρ).bind tru) fun k => ∀ H', Same H H' → Q k H') I ⟨ρ, ev, ?_⟩) fun k s1 q => ?_)
  · have an2 : An W cl σ H (((evE F t ρ).bind tru).bind fun k => if k = true then (evE F a ρ).bind tru else (evE F b ρ).bind tru) fun k => ∀ H', Same H H' → Q k H' := by
      rw [R.bind_assoc]
      refine cast ?_ an
      congr 2
      funext d
      congr 1
      funext k
      cases k <;> rfl
    exact an2.bind.imp fun k _ q H1 s1 => ⟨s1, q⟩
  · obtain ⟨H1, I1, s1', an1⟩ := q
    cases k with
    | true => exact ha.run pins s1 σ H1 Q I1 ⟨ρ, ev.same s1', An.mono an1 s1' fun k _ q H' s => q H' (s1'.trans s)⟩
    | false => exact hb.run pins s1 σ H1 Q I1 ⟨ρ, ev.same s1', An.mono an1 s1' fun k _ q H' s => q H' (s1'.trans s)⟩
/-- a chain of tests -/
theorem and_tests : ∀ {es : L} {xs : List Expr} {e : E} {x : Expr} {pos : Pos}, SndT X F W cl e x → SndTAll X F W cl es xs → PW X (.BoolOp .And (x :: xs) pos) (fun σ H Q => ∃ ρ, EV X.K [] (fun _ => True) ρ σ H ∧ An W cl σ H (((evE F e ρ).bind fun v => evAnd F es ρ v).bind tru) fun k => ∀ H', Same H H' → Q k H')
  | .nil, [], e, x, pos, he, _ => PW.imp (pw_and1 he) fun σ H Q ⟨ρ, ev, an⟩ => ⟨ρ, ev, by
      rw [R.bind_assoc] at an
      exact an⟩
  | .cons e' es, y :: ys, e, x, pos, he, hs => PW.imp (pw_and he (and_tests (pos := pos) hs.1 hs.2)) fun σ H Q ⟨ρ, ev, an⟩ => ⟨ρ, ev, by
      have e1 : (((evE F e ρ).bind fun v => evAnd F (.cons e' es) ρ v).bind tru) = ((evE F e ρ).bind tru).bind fun k => if k = true then ((evE F e' ρ).bind fun v => evAnd F es ρ v).bind tru else .ok false := by
        rw [R.bind_assoc, R.bind_assoc]
        congr 1
        funext d
        simp only [evAnd]
        cases q : tru d with
        | ok k => cases k <;> simp [R.bind, q]
        | exc n i => rfl
        | bad => rfl
      rw [e1] at an
      refine an.bind.imp fun k _ an H1 s1 => ?_
      cases k with
      | true => exact iteT ⟨ρ, ev.same s1, An.mono an s1 fun k _ q H' s => q H' (s1.trans s)⟩
      | false =>
        have q : ∀ H', Same H H' → Q false H' := an
        exact iteF (q H1 s1)⟩
  | .nil, _ :: _, _, _, _, _, hs => hs.elim
  | .cons _ _, [], _, _, _, _, hs => hs.elim
theorem or_tests : ∀ {es : L} {xs : List Expr} {e : E} {x : Expr} {pos : Pos}, SndT X F W cl e x → SndTAll X F W cl es xs → PW X (.BoolOp .Or (x :: xs) pos) (fun σ H Q => ∃ ρ, EV X.K [] (fun _ => True) ρ σ H ∧ An W cl σ H (((evE F e ρ).bind fun v => evOr F es ρ v).bind tru) fun k => ∀ H', Same H H' → Q k H')
  | .nil, [], e, x, pos, he, _ => PW.imp (pw_or1 he) fun σ H Q ⟨ρ, ev, an⟩ => ⟨ρ, ev, by
      rw [R.bind_assoc] at an
      exact an⟩
  | .cons e' es, y :: ys, e, x, pos, he, hs => PW.imp (pw_or he (or_tests (pos := pos) hs.1 hs.2)) fun σ H Q ⟨ρ, ev, an⟩ => ⟨ρ, ev, by
      have e1 : (((evE F e ρ).bind fun v => evOr F (.cons e' es) ρ v).bind tru) = ((evE F e ρ).bind tru).bind fun k => if k = true then .ok true else ((evE F e' ρ).bind fun v => evOr F es ρ v).bind tru := by
        rw [R.bind_assoc, R.bind_assoc]
        congr 1
        funext d
        simp only [evOr]
        cases q : tru d with
        | ok k => cases k <;> simp [R.bind, q]
        | exc n i => rfl
        | bad => rfl
      rw [e1] at an
      refine an.bind.imp fun k _ an H1 s1 => ?_
      cases k with
      | true =>
        have q : ∀ H', Same H H' → Q true H' := an
        exact iteT (q H1 s1)
      | false => exact iteF ⟨ρ, ev.same s1, An.mono an s1 fun k _ q H' s => q H' (s1.trans s)⟩⟩
  | .nil, _ :: _, _, _, _, _, hs => hs.elim
  | .cons _ _, [], _, _, _, _, hs => hs.elim
theorem t_and {e : E} {es : L} {x : Expr} {xs : List Expr} {pos : Pos} (he : SndT X F W cl e x) (hs : SndTAll X F W cl es xs) : SndT X F W cl (.and e es) (.BoolOp .And (x :: xs) pos) := (and_tests he hs).pt
theorem t_or {e : E} {es : L} {x : Expr} {xs : List Expr} {pos : Pos} (he : SndT X F W cl e x) (hs : SndTAll X F W cl es xs) : SndT X F W cl (.or e es) (.BoolOp .Or (x :: xs) pos) := (or_tests he hs).pt
end
end TW

/-! what is walked -/
namespace TW
open PySem PySem.Spec PyProof.Rows L2

/-! ### enumerate of a text -/
def ItSE (x : Str) : It :=
  ⟨fun i _ => i < x.cps.size, fun i H v H' => ∃ Tu c, x.cps[i]? = some c ∧ v = .ref Tu ∧ H Tu = none ∧ H' = upd H Tu (.tup [.int (i : Nat), .str ⟨#[c]⟩]), fun i _ => x.cps.size ≤ i⟩
theorem turn_enumS {P : Program} {w : World} {K : PySem.W.Frag} {elts : List Expr} {kk : Nat} {tpos : Pos} (x : Str) (t : Tok) (e it : Addr) :
    Turn P w K (.Tuple elts kk tpos) (ItSE x) [e, it] e (fun i h => i ≤ x.cps.size ∧ (∃ old, IsEnum h e it ((i : Nat) : Int) old) ∧ h.IsStrIter it (strIterType x) x t i ∧ e ≠ it) where
  mem := by simp
  obj i h st b hb := by
    obtain ⟨_, ⟨old, he⟩, ⟨o, ho, hc, hd⟩, _⟩ := st
    rcases (by simpa using hb : b = e ∨ b = it) with rfl | rfl
    · exact ⟨_, he, fun _ q => nomatch q⟩
    · exact ⟨o, ho, fun _ q => by rw [hd] at q; cases q⟩
  keep i h h' st k := let ⟨hl, ⟨old, he⟩, ⟨o, ho, r⟩, hne⟩ := st; ⟨hl, ⟨old, k e (by simp) _ he⟩, ⟨o, k it (by simp) _ ho, r⟩, hne⟩
  item := by
    rintro X rfl rfl rfl hc i pins s σ H E I hf ⟨hle, ⟨old, he⟩, hit, hne⟩ hlt
    have he' : e < s.heap.objs.size := Heap.lt_size he
    have hi' : it < s.heap.objs.size := by obtain ⟨_, q, _⟩ := hit; exact Heap.lt_size q
    have Dr := Draws.text (prog := X.prog) (w := X.w) (A := X.A.in1) (I.ok.hd hc) it x t
    refine wpAny_pyNext_enum_itemD Dr he hit hlt hne (by simpa using hne) fun u h1 tk hu ho hs hT hz hk => ?_
    obtain ⟨ch, ut, hcx, rfl⟩ := hu
    refine ⟨_, rfl, wpAny_letOwnedTupleGo_enum (s := { s with heap := h1, toks := tk + 1 }) ho fun h2 he2 sb => ?_⟩
    have hT2 : h2.get? s.heap.objs.size = some { cls := .type "tuple", data := .seq #[.int i tk, .str ⟨#[ch]⟩ ut] } := (sb.2 _ (Nat.ne_of_gt he')).trans hT
    have new : ObjOk X.prog X.w (upd H s.heap.objs.size (.tup [.int (i : Nat), .str ⟨#[ch]⟩])) h2 s.heap.objs.size (.tup [.int (i : Nat), .str ⟨#[ch]⟩]) :=
      ⟨(by decide : 2 ≤ sizeLine), [.int i tk, .str ⟨#[ch]⟩ ut], .cons ⟨_, rfl⟩ (.cons ⟨_, rfl⟩ .nil), ⟨_, hT2, rfl, _, rfl⟩⟩
    have I1 := I.turnedNew (ch := [e, it]) (t' := tk + 1) (fun b ob hb q => (sb.2 b (fun z => hb (by simp [z]))).trans (hk b ob (fun z => hb (by simp [z])) (fun z => hb (by simp [z])) q)) hf (Nat.le_refl _) new
    refine ⟨.ref s.heap.objs.size, _, I1, rfl, ⟨_, ch, hcx, rfl, I.hok.fresh (Nat.le_refl _), rfl⟩, ⟨hlt, ⟨.str ⟨#[ch]⟩ ut, ?_⟩, ?_, hne⟩, fun b hb => ?_⟩
    · rw [show ((i + 1 : Nat) : Int) = (i : Int) + 1 by omega]; exact he2
    · obtain ⟨o, q, r⟩ := hs
      exact ⟨o, (sb.2 it (Ne.symm hne)).trans q, r⟩
    · have : b < s.heap.objs.size := by
        rcases (by simpa using hb : b = e ∨ b = it) with rfl | rfl
        · exact he'
        · exact hi'
      rw [upd_ne (Nat.ne_of_lt this)]
      exact (hf b hb).1
  done := by
    rintro X rfl rfl rfl hc i pins s σ H E I hf ⟨hle, ⟨old, he⟩, hit, hne⟩ hst
    have hst : x.cps.size ≤ i := hst
    obtain ⟨f0, f1, f2, f3, f4, f5⟩ := hf it (by simp)
    have Dr := Draws.text (prog := X.prog) (w := X.w) (A := X.A.in1) (I.ok.hd hc) it x t
    have ei : i = x.cps.size := by omega
    subst ei
    exact wpAny_pyNext_enum_endD Dr he hit fun h' eb => ⟨rfl, I.turned (t' := s.toks) (fun b o hb q => eb b o hb q) f0 f1 f3 f4 f5⟩
  self := fun A i s Q E st h => let ⟨_, ⟨_, he⟩, _⟩ := st; wpAny_pyIter_enum he h
theorem pi_enumS {X : Cx} {e : Expr} {te : TE} {p pos tpos : Pos} {elts : List Expr} {kk : Nat} (hg : Gl X "enumerate") (hm : X.mg "enumerate" = none) (he : PE X e te) (hs : starEach [e] X.env = [(false, eval e X.env)]) :
    PI X (.Tuple elts kk tpos) (.Call (.Name "enumerate" p) [e] [] pos) (fun σ H R => te σ H fun v H1 => ∃ x, v = .str x ∧ R (ItSE x) H1) := by
  refine ⟨fun pins s σ H R I h => ?_⟩
  have ha : PA X [e] (tCons te tNil) := pa_cons he pa_nil hs
  refine Call_ (ld_blt I hg hm boot_enumerate (PyProof.Rows.callWith_type1 (thn (ha.run pos pins s σ H (fun vs H1 => ∃ x, vs = [.str x] ∧ R (ItSE x) H1) I ?_) fun us s1 q => ?_) hs rfl))
  · refine cast ?_ h
    congr
    funext v H1
    apply propext
    constructor
    · rintro ⟨x, rfl, q⟩; exact ⟨x, rfl, q⟩
    · rintro ⟨x, e, q⟩; exact ⟨x, by simpa using e, q⟩
  · obtain ⟨vs, H1, I1, r1, x, rfl, q⟩ := q
    obtain ⟨u, rfl, t, rfl⟩ := vals1 r1
    refine call_enumerate_str fun h' he' hit hz hk => wpAny_pyIter_enum he' ?_
    have I2 : Inv X pins σ H1 { s1 with heap := h' } := I1.kept (t' := s1.toks) hk
    refine ⟨s1.heap.objs.size + 1, [s1.heap.objs.size + 1, s1.heap.objs.size], _, _, H1, rfl, I2, turn_enumS x t (s1.heap.objs.size + 1) s1.heap.objs.size, ⟨Nat.zero_le _, ⟨.none, he'⟩, hit, Nat.succ_ne_self _⟩, fun b hb => ?_, q⟩
    have hle : s1.heap.objs.size ≤ b := by
      rcases (by simpa using hb : b = s1.heap.objs.size + 1 ∨ b = s1.heap.objs.size) with rfl | rfl
      · exact Nat.le_add_right _ _
      · exact Nat.le_refl _
    exact I1.fpOk hle (I1.hok.fresh hle)
/-! ### a walk over trees -/
/-- J yields xs as long as what Z tells of, and tuples, stay as at H1 -/
def WD (K : PySem.W.Frag) (J : It) (H1 : Hp) (Z P : AP) (xs : List D) : Prop := ∀ i H, Keeps Z [] H1 H →
  (∀ d, xs[i]? = some d → J.go i H ∧ ∀ x H', J.yld i H x H' → Same H H' ∧ Rp K H' P 0 [] x d) ∧ (xs[i]? = none → J.stop i H)
section
variable {K : PySem.W.Frag} {H1 : Hp} {Z P : AP}
theorem wd_list {a : Addr} {vs : List V} {ds : List D} (hs : Rd H1 a (.lst vs) ∧ Z a ∨ KLs K a vs) (hl : RpL K H1 P 0 [] vs ds) (w : ∀ a, P a → Z a) : WD K (Itl K a) H1 Z P ds := fun i H k => by
  have k' : Keeps P [] H1 H := fun b o e q => k b o e (q.imp id fun q => q.imp (w b) id)
  have sq : SqL K H a vs := by
    rcases hs with ⟨q, z⟩ | q
    · exact .inl (k.rd q z)
    · exact .inr q
  refine ⟨fun d ed => ?_, fun en => ?_⟩
  · obtain ⟨v, ev, r⟩ := RpL.get hl ed
    refine ⟨⟨vs, v, sq, ev⟩, fun x H' y => ?_⟩
    obtain ⟨rfl, y⟩ := y
    have := y vs sq
    rw [ev] at this
    cases this
    exact ⟨Same.refl _, Rp.frame d r k' fun _ p => p⟩
  · exact ⟨vs, sq, by rw [hl.len]; exact List.getElem?_eq_none_iff.mp en⟩
theorem wd_tup {a : Addr} {vs : List V} {ds : List D} (hs : SqT K H1 a vs) (hl : RpL K H1 P 0 [] vs ds) (w : ∀ a, P a → Z a) : WD K (Itt K a) H1 Z P ds := fun i H k => by
  have k' : Keeps P [] H1 H := fun b o e q => k b o e (q.imp id fun q => q.imp (w b) id)
  have sq : SqT K H a vs := k.sqT hs
  refine ⟨fun d ed => ?_, fun en => ?_⟩
  · obtain ⟨v, ev, r⟩ := RpL.get hl ed
    refine ⟨⟨vs, v, sq, ev⟩, fun x H' y => ?_⟩
    obtain ⟨rfl, y⟩ := y
    have := y vs sq
    rw [ev] at this
    cases this
    exact ⟨Same.refl _, Rp.frame d r k' fun _ p => p⟩
  · exact ⟨vs, sq, by rw [hl.len]; exact List.getElem?_eq_none_iff.mp en⟩
theorem signs_get (x : Str) (i : Nat) : (x.cps.toList.map fun c => D.str (sign c))[i]? = (x.cps[i]?).map fun c => .str (sign c) := by
  rw [List.getElem?_map]
  simp
theorem wd_str (x : Str) : WD K (Its x) H1 Z P (x.cps.toList.map fun c => .str (sign c)) := fun i H k => by
  rw [signs_get]
  refine ⟨fun d ed => ?_, fun en => ?_⟩
  · rw [Option.map_eq_some_iff] at ed
    obtain ⟨c, ec, rfl⟩ := ed
    obtain ⟨hi, _⟩ := Array.getElem?_eq_some_iff.mp ec
    refine ⟨hi, fun v H' y => ?_⟩
    obtain ⟨rfl, c', ec', rfl⟩ := y
    rw [ec] at ec'
    cases ec'
    exact ⟨Same.refl _, .str _⟩
  · rw [Option.map_eq_none_iff] at en
    exact Array.getElem?_eq_none_iff.mp en
theorem wd_rng (lo : Int) (n : Nat) : WD K (Itr lo n) H1 Z P ((List.range n).map fun (k : Nat) => .int (lo + (k : Int))) := fun i H k => by
  refine ⟨fun d ed => ?_, fun en => ?_⟩
  · rw [List.getElem?_map, Option.map_eq_some_iff] at ed
    obtain ⟨j, ej, rfl⟩ := ed
    obtain ⟨hi, rfl⟩ := List.getElem?_eq_some_iff.mp ej
    simp only [List.length_range] at hi
    refine ⟨hi, fun v H' y => ?_⟩
    obtain ⟨rfl, rfl⟩ := y
    simp only [List.getElem_range]
    exact ⟨Same.refl _, .int _⟩
  · rw [List.getElem?_map, Option.map_eq_none_iff] at en
    show n ≤ i
    simpa using List.getElem?_eq_none_iff.mp en
theorem pair_rp {H : Hp} {Tu : Addr} {x y : V} {d e : D} (hn : H Tu = none) (r1 : Rp K H P 0 [] x d) (r2 : Rp K H P 0 [] y e) : Rp K (upd H Tu (.tup [x, y])) P 0 [] (.ref Tu) (.tup [d, e]) :=
  .tup0 (.inl (.inl upd_same)) (RpL.cons00 (r1.same (same_upd hn)) (RpL.cons00 (r2.same (same_upd hn)) .nil))
theorem enumL_get (ds : List D) (i : Nat) : (enumL ds)[i]? = (ds[i]?).map fun d => .tup [.int i, d] := by
  unfold enumL
  rw [List.getElem?_map, List.getElem?_zipIdx]
  cases ds[i]? <;> simp
theorem wd_enum {a : Addr} {vs : List V} {ds : List D} (hs : Rd H1 a (.lst vs) ∧ Z a ∨ KLs K a vs) (hl : RpL K H1 P 0 [] vs ds) (w : ∀ a, P a → Z a) : WD K (Ite K a) H1 Z P (enumL ds) := fun i H k => by
  have k' : Keeps P [] H1 H := fun b o e q => k b o e (q.imp id fun q => q.imp (w b) id)
  have sq : SqL K H a vs := by
    rcases hs with ⟨q, z⟩ | q
    · exact .inl (k.rd q z)
    · exact .inr q
  rw [enumL_get]
  refine ⟨fun d ed => ?_, fun en => ?_⟩
  · rw [Option.map_eq_some_iff] at ed
    obtain ⟨d0, ed0, rfl⟩ := ed
    obtain ⟨v, ev, r⟩ := RpL.get hl ed0
    refine ⟨⟨vs, v, sq, ev⟩, fun x H' y => ?_⟩
    obtain ⟨Tu, x', rfl, hn, rfl, y⟩ := y
    have := y vs sq
    rw [ev] at this
    cases this
    exact ⟨same_upd hn, pair_rp hn (.int _) (Rp.frame d0 r k' fun _ p => p)⟩
  · rw [Option.map_eq_none_iff] at en
    exact ⟨vs, sq, by rw [hl.len]; exact List.getElem?_eq_none_iff.mp en⟩
theorem wd_enumS (x : Str) : WD K (ItSE x) H1 Z P (enumL (x.cps.toList.map fun c => .str (sign c))) := fun i H k => by
  rw [enumL_get, signs_get, Option.map_map]
  refine ⟨fun d ed => ?_, fun en => ?_⟩
  · rw [Option.map_eq_some_iff] at ed
    obtain ⟨c, ec, rfl⟩ := ed
    obtain ⟨hi, _⟩ := Array.getElem?_eq_some_iff.mp ec
    refine ⟨hi, fun v H' y => ?_⟩
    obtain ⟨Tu, c', ec', rfl, hn, rfl⟩ := y
    rw [ec] at ec'
    cases ec'
    exact ⟨same_upd hn, pair_rp hn (.int _) (.str _)⟩
  · rw [Option.map_eq_none_iff] at en
    exact Array.getElem?_eq_none_iff.mp en
theorem wd_zip {a b : Addr} {us vs : List V} {ds es : List D} (h1 : Rd H1 a (.lst us) ∧ Z a ∨ KLs K a us) (h2 : Rd H1 b (.lst vs) ∧ Z b ∨ KLs K b vs) (l1 : RpL K H1 P 0 [] us ds) (l2 : RpL K H1 P 0 [] vs es) (w : ∀ a, P a → Z a) :
    WD K (Itz K a b) H1 Z P (List.zipWith (fun x y => .tup [x, y]) ds es) := fun i H k => by
  have k' : Keeps P [] H1 H := fun b o e q => k b o e (q.imp id fun q => q.imp (w b) id)
  have s1 : SqL K H a us := by
    rcases h1 with ⟨q, z⟩ | q
    · exact .inl (k.rd q z)
    · exact .inr q
  have s2 : SqL K H b vs := by
    rcases h2 with ⟨q, z⟩ | q
    · exact .inl (k.rd q z)
    · exact .inr q
  rw [List.getElem?_zipWith]
  refine ⟨fun d ed => ?_, fun en => ?_⟩
  · cases e1 : ds[i]? with
    | none => rw [e1] at ed; simp at ed
    | some d1 =>
      cases e2 : es[i]? with
      | none => rw [e1, e2] at ed; simp at ed
      | some d2 =>
        rw [e1, e2] at ed
        cases ed
        obtain ⟨v, ev, r1⟩ := RpL.get l1 e1
        obtain ⟨u, eu, r2⟩ := RpL.get l2 e2
        refine ⟨⟨us, vs, v, u, s1, s2, ev, eu⟩, fun x H' y => ?_⟩
        obtain ⟨Tu, x', y', rfl, hn, rfl, y1, y2⟩ := y
        have := y1 us s1
        rw [ev] at this
        cases this
        have := y2 vs s2
        rw [eu] at this
        cases this
        exact ⟨same_upd hn, pair_rp hn (Rp.frame d1 r1 k' fun _ p => p) (Rp.frame d2 r2 k' fun _ p => p)⟩
  · refine ⟨us, vs, s1, s2, ?_⟩
    rw [l1.len, l2.len]
    rcases Nat.lt_or_ge i ds.length with z1 | z1
    · rcases Nat.lt_or_ge i es.length with z2 | z2
      · rw [List.getElem?_eq_getElem z1, List.getElem?_eq_getElem z2] at en
        cases en
      · exact .inr z2
    · exact .inl z1
end
end TW

/-! walks; comprehensions; all terms -/
namespace TW
open PySem PySem.Spec PyProof.Rows L2
section
variable (K : PySem.W.Frag) (T : RTs) (F : Fs) (W : WX) (cl : Cl) (M : Bool)
def Rm (H : Hp) (P : AP) (v : V) (d : D) : Prop := if M = true then Rc K H P v d else Rp K H P 0 [] v d
def tR (A : Lv) (e : E) : TE := fun σ H Q => ∃ ρ P, EV K A P ρ σ H ∧ An W cl σ H (evE F e ρ) fun d => ∀ v H', Same H H' → Rm K M H' (fun a => P a ∨ H a = none) v d → Q v H'
def tI (A : Lv) (it : I) : TI := fun σ H R => ∃ ρ P, EV K A P ρ σ H ∧ An W cl σ H (evI F it ρ) fun xs => ∀ J H1, Same H H1 → WD K J H1 (fun a => M = true ∨ P a ∨ H a = none) (fun a => (P a ∨ H a = none) ∧ H1 a ≠ none) xs → R J H1
end
def okR (T : RTs) (M : Bool) (A : Lv) (e : E) : Bool := if M then okC T A e else okM T A e
def okIm (T : RTs) (M : Bool) (A : Lv) (it : I) : Bool := if M then okIC T A it else okI T A it
section
variable {K : PySem.W.Frag} {M : Bool} {H H' : Hp} {P : AP} {v : V} {ds : List D}
theorem Rm.rc {d : D} (h : Rm K M H P v d) : Rc K H P v d := by
  unfold Rm at h
  split at h
  · exact h
  · exact ⟨0, [], Nat.zero_le _, h⟩
theorem Rm.same {d : D} (h : Rm K M H P v d) (s : Same H H') : Rm K M H' P v d := by
  unfold Rm at h ⊢
  split at h
  · rename_i z; rw [if_pos z]; exact h.same s
  · rename_i z; rw [if_neg z]; exact h.same s
theorem Rm.wP {P' : AP} {d : D} (h : Rm K M H P v d) (w : ∀ a, P a → P' a) : Rm K M H P' v d := by
  unfold Rm at h ⊢
  split at h
  · rename_i z; rw [if_pos z]; exact h.wP w
  · rename_i z; rw [if_neg z]; exact h.wP w
theorem Rm.lst (h : Rm K M H P v (.lst ds)) : ∃ a vs, v = .ref a ∧ (Rd H a (.lst vs) ∧ (M = true ∨ P a) ∨ KLs K a vs) ∧ RpL K H P 0 [] vs ds := by
  unfold Rm at h
  split at h
  · obtain ⟨a, vs, rfl, ha, hl⟩ := h.items
    exact ⟨a, vs, rfl, .inl ⟨.inl ha, .inl (by assumption)⟩, hl⟩
  · cases h with
    | sh ha hp hl => exact ⟨_, _, rfl, .inl ⟨.inl ha, .inr hp⟩, hl⟩
theorem Rm.rol (h : Rm K M H P v (.rol ds)) : ∃ a vs, v = .ref a ∧ (Rd H a (.lst vs) ∧ (M = true ∨ P a) ∨ KLs K a vs) ∧ RpL K H P 0 [] vs ds := by
  obtain ⟨m, S, hm, h⟩ := h.rc
  cases h with
  | rol ha hl => exact ⟨_, _, rfl, ha.imp (fun ⟨q, p⟩ => ⟨q, .inr p⟩) id, hl⟩
theorem Rm.tup (h : Rm K M H P v (.tup ds)) : ∃ a vs, v = .ref a ∧ SqT K H a vs ∧ RpL K H P 0 [] vs ds := h.rc.tupI
theorem Rm.str {x : Str} (h : Rm K M H P v (.str x)) : v = .str x := rc_str h.rc
end
section
variable {X : Cx} {T : RTs} {F : Fs} {W : WX} {cl : Cl} {k : Nat} {c : Cn} {sc : Scope} {M : Bool}
theorem modeR {e : E} {ast : Expr} (g : GX X sc) (hm : mE X.N c sc e ast = true) (hE : Snd X T F W cl e ast) {A : Lv} (ok : okR T M A e = true) : PE X ast (tR X.K F W cl M A e) := by
  unfold okR at ok
  cases M with
  | true => exact PE.imp (modeC g hm hE ok) fun σ H Q ⟨ρ, P, ev, an⟩ => ⟨ρ, P, ev, an.imp fun d _ q v H' s r => q v H' s (by unfold Rm; rw [if_pos rfl]; exact r)⟩
  | false => exact PE.imp (modeM hE ok) fun σ H Q ⟨ρ, P, ev, an⟩ => ⟨ρ, P, ev, an.imp fun d _ q v H' S s nd f r => q v H' s (by
      unfold Rm
      rw [if_neg (by decide)]
      exact r.shared (fr_le T e) (fun a p => p.1) fun a p => .inr (f a p))⟩
def SndI (X : Cx) (T : RTs) (F : Fs) (W : WX) (cl : Cl) (it : I) (tg ast : Expr) : Prop := ∀ M A, okIm T M A it = true → PI X tg ast (tI X.K F W cl M A it)
theorem i_it {e : E} {tg ast : Expr} (g : GX X sc) (hm : mE X.N c sc e ast = true) (hE : Snd X T F W cl e ast) : SndI X T F W cl (.it e) tg ast := fun M A ok => by
  have pe := modeR (M := M) g hm hE (A := A) (by cases M <;> exact ok)
  refine PI.imp (PI.or (pi_list pe) (PI.or (pi_tup pe) (pi_str pe))) fun σ H R ⟨ρ, P, ev, an⟩ => ?_
  simp only [evI] at an
  have an := An.bind an
  cases q : evE F e ρ with
  | bad => rw [q] at an; exact an.elim
  | exc n i =>
    rw [q] at an
    exact .inl ⟨ρ, P, ev, by rw [q]; exact an⟩
  | ok d =>
    rw [q] at an
    cases d with
    | lst ds =>
      refine .inl ⟨ρ, P, ev, by
        rw [q]
        intro v H1 s r
        obtain ⟨a, vs, rfl, ha, hl⟩ := r.lst
        refine ⟨a, rfl, ⟨vs, ?_⟩, an _ H1 s (wd_list ha (RpL.dom _ hl) fun a p => .inr p.1)⟩
        rcases ha with ⟨z, _⟩ | z
        · exact .inl z
        · exact .inr z⟩
    | rol ds =>
      refine .inl ⟨ρ, P, ev, by
        rw [q]
        intro v H1 s r
        obtain ⟨a, vs, rfl, ha, hl⟩ := r.rol
        refine ⟨a, rfl, ⟨vs, ?_⟩, an _ H1 s (wd_list ha (RpL.dom _ hl) fun a p => .inr p.1)⟩
        rcases ha with ⟨z, _⟩ | z
        · exact .inl z
        · exact .inr z⟩
    | tup ds =>
      exact .inr (.inl ⟨ρ, P, ev, by
        rw [q]
        intro v H1 s r
        obtain ⟨a, vs, rfl, ha, hl⟩ := r.tup
        exact ⟨a, rfl, ⟨vs, ha⟩, an _ H1 s (wd_tup ha (RpL.dom _ hl) fun a p => .inr p.1)⟩⟩)
    | str x =>
      exact .inr (.inr ⟨ρ, P, ev, by
        rw [q]
        intro v H1 s r
        exact ⟨x, r.str, an _ H1 s (wd_str x)⟩⟩)
    | non => exact an.elim
    | bl _ => exact an.elim
    | int _ => exact an.elim
theorem PI.alt {tg e : Expr} {t t' : TI} (h : PI X tg e t) (h' : PI X tg e t') {u : TI} (w : ∀ σ H R, u σ H R → t σ H R ∨ t' σ H R) : PI X tg e u := PI.imp (PI.or h h') w
theorem i_rg1 {a : E} {y : Expr} {p pos : Pos} {tg : Expr} (xc : XC X k c T F cl) (g : GX X sc) (hg : glB sc "range" = true) (py : plainX y = true) (ha : Snd X T F W cl a y) : SndI X T F W cl (.rg1 a) tg (.Call (.Name "range" p) [y] [] pos) := fun M A ok => by
  have hm : X.mg "range" = none := xc.blt "range" (by decide)
  have st := star_cons py [] X.env
  refine PI.imp (pi_range1 (g.gl _ hg) hm (pa_cons (modeA ha) pa_nil st) st) fun σ H Rr ⟨ρ, P, ev, an⟩ => ⟨ρ, ev.free, ?_⟩
  simp only [evI] at an
  refine (An.bind an).imp fun d ed an v H1 s1 r => ?_
  obtain ⟨j, rfl⟩ : ∃ j, d = .int j := by cases d <;> first | exact ⟨_, rfl⟩ | exact an.elim
  have an : An W cl σ H (if -B62 ≤ j ∧ j < B62 then R.ok (rngL 0 j) else .bad) fun xs => ∀ J H1, Same H H1 → WD X.K J H1 (fun a => M = true ∨ P a ∨ H a = none) (fun a => (P a ∨ H a = none) ∧ H1 a ≠ none) xs → Rr J H1 := an
  by_cases hj : -B62 ≤ j ∧ j < B62
  · rw [if_pos hj] at an
    have q : ∀ J H1, Same H H1 → WD X.K J H1 (fun a => M = true ∨ P a ∨ H a = none) (fun a => (P a ∨ H a = none) ∧ H1 a ≠ none) (rngL 0 j) → Rr J H1 := an
    refine ⟨j, by rw [Ra.int r], by unfold B62 at hj; omega, by unfold B62 at hj; omega, q _ H1 s1 ?_⟩
    have e := wd_rng (K := X.K) (H1 := H1) (Z := fun a => M = true ∨ P a ∨ H a = none) (P := fun a => (P a ∨ H a = none) ∧ H1 a ≠ none) 0 j.toNat
    unfold rngL
    rw [Int.sub_zero]
    exact e
  · rw [if_neg hj] at an
    exact an.elim
theorem i_rg2 {a b : E} {y z : Expr} {p pos : Pos} {tg : Expr} (xc : XC X k c T F cl) (g : GX X sc) (hg : glB sc "range" = true) (py : plainX y = true) (pz : plainX z = true) (ha : Snd X T F W cl a y) (hb : Snd X T F W cl b z) : SndI X T F W cl (.rg2 a b) tg (.Call (.Name "range" p) [y, z] [] pos) := fun M A ok => by
  have hm : X.mg "range" = none := xc.blt "range" (by decide)
  have st2 := star_cons pz [] X.env
  have st := star_cons py [z] X.env
  refine PI.imp (pi_range2 (g.gl _ hg) hm (pa_cons (modeA ha) (pa_cons (modeA hb) pa_nil st2) st) (by rw [st, st2]; rfl) st2) fun σ H Rr ⟨ρ, P, ev, an⟩ => ⟨ρ, ev.free, ?_⟩
  simp only [evI] at an
  refine (An.bind an).imp fun d ed an v H1 s1 r => ⟨ρ, ev.free.same s1, (An.bind an).mono s1 fun e ee an u H2 s2 r2 => ?_⟩
  obtain ⟨i, rfl⟩ : ∃ j, d = .int j := by cases d <;> first | exact ⟨_, rfl⟩ | exact an.elim | (cases e <;> exact an.elim)
  obtain ⟨j, rfl⟩ : ∃ j, e = .int j := by cases e <;> first | exact ⟨_, rfl⟩ | exact an.elim
  have an : An W cl σ H (if -B62 ≤ i ∧ i < B62 ∧ -B62 ≤ j ∧ j < B62 then R.ok (rngL i j) else .bad) fun xs => ∀ J H1, Same H H1 → WD X.K J H1 (fun a => M = true ∨ P a ∨ H a = none) (fun a => (P a ∨ H a = none) ∧ H1 a ≠ none) xs → Rr J H1 := an
  by_cases hj : -B62 ≤ i ∧ i < B62 ∧ -B62 ≤ j ∧ j < B62
  · rw [if_pos hj] at an
    have q : ∀ J H1, Same H H1 → WD X.K J H1 (fun a => M = true ∨ P a ∨ H a = none) (fun a => (P a ∨ H a = none) ∧ H1 a ≠ none) (rngL i j) → Rr J H1 := an
    refine ⟨i, j, by rw [Ra.int r, Ra.int r2], ⟨by unfold B62 at hj; omega, by unfold B62 at hj; omega, by unfold B62 at hj; omega, by unfold B62 at hj; omega⟩, q _ H2 (s1.trans s2) ?_⟩
    exact wd_rng i (j - i).toNat
  · rw [if_neg hj] at an
    exact an.elim
theorem i_enum {a : E} {y : Expr} {p pos tpos : Pos} {elts : List Expr} {kk : Nat} (xc : XC X k c T F cl) (g : GX X sc) (hg : glB sc "enumerate" = true) (ma : mE X.N c sc a y = true) (ha : Snd X T F W cl a y) :
    SndI X T F W cl (.enum a) (.Tuple elts kk tpos) (.Call (.Name "enumerate" p) [y] [] pos) := fun M A ok => by
  have hm : X.mg "enumerate" = none := xc.blt "enumerate" (by decide)
  have st := star_cons (mE_plain ma) [] X.env
  have pe := modeR (M := M) g ma ha (A := A) (by cases M <;> exact ok)
  refine PI.imp (PI.or (pi_enum (g.gl _ hg) hm (pa_cons pe pa_nil st) st) (pi_enumS (g.gl _ hg) hm pe st)) fun σ H Rr ⟨ρ, P, ev, an⟩ => ?_
  simp only [evI] at an
  have an := An.bind an
  cases q : evE F a ρ with
  | bad => rw [q] at an; exact an.elim
  | exc n i =>
    rw [q] at an
    exact .inl ⟨ρ, P, ev, by rw [q]; exact an⟩
  | ok d =>
    rw [q] at an
    cases d with
    | lst ds =>
      refine .inl ⟨ρ, P, ev, by
        rw [q]
        intro v H1 s r
        obtain ⟨b, vs, rfl, hb, hl⟩ := r.lst
        refine ⟨b, vs, rfl, ?_, an _ H1 s (wd_enum hb (RpL.dom _ hl) fun a p => .inr p.1)⟩
        rcases hb with ⟨z, _⟩ | z
        · exact .inl z
        · exact .inr z⟩
    | str x =>
      have an : An W cl σ H (if x.length ≤ LIM then R.ok (enumL (x.cps.toList.map fun c => .str (sign c))) else .bad) fun xs => ∀ J H1, Same H H1 → WD X.K J H1 (fun a => M = true ∨ P a ∨ H a = none) (fun a => (P a ∨ H a = none) ∧ H1 a ≠ none) xs → Rr J H1 := an
      by_cases hx : x.length ≤ LIM
      · rw [if_pos hx] at an
        have an : ∀ J H1, Same H H1 → WD X.K J H1 (fun a => M = true ∨ P a ∨ H a = none) (fun a => (P a ∨ H a = none) ∧ H1 a ≠ none) (enumL (x.cps.toList.map fun c => .str (sign c))) → Rr J H1 := an
        exact .inr ⟨ρ, P, ev, by
          rw [q]
          intro v H1 s r
          exact ⟨x, r.str, an _ H1 s (wd_enumS x)⟩⟩
      · rw [if_neg hx] at an
        exact an.elim
    | non => exact an.elim
    | bl _ => exact an.elim
    | int _ => exact an.elim
    | tup _ => exact an.elim
    | rol _ => exact an.elim
theorem i_zip {a b : E} {y z : Expr} {p pos tpos : Pos} {elts : List Expr} {kk : Nat} (xc : XC X k c T F cl) (g : GX X sc) (hg : glB sc "zip" = true) (ma : mE X.N c sc a y = true) (mb : mE X.N c sc b z = true) (ha : Snd X T F W cl a y) (hb : Snd X T F W cl b z) :
    SndI X T F W cl (.zip a b) (.Tuple elts kk tpos) (.Call (.Name "zip" p) [y, z] [] pos) := fun M A ok => by
  have hm : X.mg "zip" = none := xc.blt "zip" (by decide)
  have st2 := star_cons (mE_plain mb) [] X.env
  have st := star_cons (mE_plain ma) [z] X.env
  have ok' : okR T M A a = true ∧ okR T M A b = true := by
    cases M <;> (simp only [okIm, okIC, okI, okM, okC, Bool.and_eq_true, if_true, if_false, Bool.false_eq_true] at ok; exact ok)
  refine PI.imp (pi_zip (g.gl _ hg) hm (pa_cons (modeR (M := M) g ma ha ok'.1) (pa_cons (modeR (M := M) g mb hb ok'.2) pa_nil st2) st) st (by rw [st2]; rfl)) fun σ H Rr ⟨ρ, P, ev, an⟩ => ⟨ρ, P, ev, ?_⟩
  simp only [evI] at an
  refine (An.bind an).imp fun d ed an v H1 s1 r => ⟨ρ, P, ev.same s1, (An.bind an).mono s1 fun e ee an u H2 s2 r2 => ?_⟩
  obtain ⟨xs, rfl⟩ : ∃ j, d = .lst j := by cases d <;> first | exact ⟨_, rfl⟩ | exact an.elim | (cases e <;> exact an.elim)
  obtain ⟨ys, rfl⟩ : ∃ j, e = .lst j := by cases e <;> first | exact ⟨_, rfl⟩ | exact an.elim
  have q : ∀ J H1, Same H H1 → WD X.K J H1 (fun a => M = true ∨ P a ∨ H a = none) (fun a => (P a ∨ H a = none) ∧ H1 a ≠ none) (List.zipWith (fun x y => .tup [x, y]) xs ys) → Rr J H1 := an
  obtain ⟨p1, us, rfl, h1, l1⟩ := (r.same s2).lst
  obtain ⟨p2, vs, rfl, h2, l2⟩ := (r2.wP fun a p => p.imp id fun z => s1.free z).lst
  refine ⟨p1, p2, us, vs, rfl, ?_, ?_, q _ H2 (s1.trans s2) (wd_zip h1 h2 (RpL.dom _ l1) (RpL.dom _ l2) fun a p => .inr p.1)⟩
  · rcases h1 with ⟨z, _⟩ | z
    · exact .inl z
    · exact .inr z
  · rcases h2 with ⟨z, _⟩ | z
    · exact .inl z
    · exact .inr z
end
end TW

/-! targets; comprehensions -/
namespace TW
open PySem PySem.Spec PyProof.Rows L2

theorem wipe_get (σ : L2.St) : ∀ (vs : List Nat) (j : Nat), (wipe σ vs)[j]? = if j ∈ vs then (if j < σ.length then some none else none) else σ[j]?
  | [], j => by simp [wipe]
  | v :: vs, j => by
    unfold wipe
    rw [List.getElem?_set, wipe_get σ vs j, wipe_length]
    by_cases h : v = j
    · subst h; simp
    · rw [if_neg h]
      have : (j ∈ v :: vs) = (j ∈ vs) := by simp [List.mem_cons, show ¬ j = v from fun e => h e.symm]
      simp only [this]
theorem wipe_set {σ : L2.St} {vs : List Nat} {i : Nat} {x : Option V} (h : i ∈ vs) : wipe (σ.set i x) vs = wipe σ vs := by
  apply List.ext_getElem?
  intro j
  rw [wipe_get, wipe_get, List.length_set]
  by_cases hj : j ∈ vs
  · rw [if_pos hj, if_pos hj]
  · rw [if_neg hj, if_neg hj, List.getElem?_set_ne (fun e => hj (by rw [← e]; exact h))]
theorem wipe_wipe {σ : L2.St} {vs : List Nat} : wipe (wipe σ vs) vs = wipe σ vs := by
  apply List.ext_getElem?
  intro j
  rw [wipe_get, wipe_get, wipe_length]
  split
  · rfl
  · rfl
theorem wipeE_get (ρ : En) : ∀ (vs : List Nat) (j : Nat), (wipeE ρ vs)[j]? = if j ∈ vs then (if j < ρ.length then some none else none) else ρ[j]?
  | [], j => by simp [wipeE]
  | v :: vs, j => by
    have hl : ∀ vs, (wipeE ρ vs).length = ρ.length := fun vs => by
      induction vs with
      | nil => rfl
      | cons v vs ih => simp [wipeE, ih]
    unfold wipeE
    rw [List.getElem?_set, wipeE_get ρ vs j, hl]
    by_cases h : v = j
    · subst h; simp
    · rw [if_neg h]
      have : (j ∈ v :: vs) = (j ∈ vs) := by simp [List.mem_cons, show ¬ j = v from fun e => h e.symm]
      simp only [this]
theorem wipeE_len (ρ : En) : ∀ vs, (wipeE ρ vs).length = ρ.length
  | [] => rfl
  | v :: vs => by simp [wipeE, wipeE_len ρ vs]
theorem lv_set_ne (A : Lv) {i j : Nat} (n : Nat) (h : i ≠ j) : lv (A.set i n) j = lv A j := by
  unfold lv
  rw [List.getD_eq_getElem?_getD, List.getD_eq_getElem?_getD, List.getElem?_set_ne h]
theorem lv_zeroL_ne : ∀ (is : List Nat) (A : Lv) {j : Nat}, j ∉ is → lv (zeroL A is) j = lv A j
  | [], _, _, _ => rfl
  | i :: is, A, j, h => by
    simp only [List.mem_cons, not_or] at h
    show lv (zeroL (A.set i 0) is) j = _
    rw [lv_zeroL_ne is _ h.2, lv_set_ne _ _ (fun e => h.1 e.symm)]
theorem lv_zeroL_in : ∀ (is : List Nat) (A : Lv) {j : Nat}, j ∈ is → lv (zeroL A is) j = 0
  | i :: is, A, j, h => by
    show lv (zeroL (A.set i 0) is) j = 0
    by_cases hj : j ∈ is
    · exact lv_zeroL_in is _ hj
    · have e : j = i := by
        rcases List.mem_cons.mp h with e | h
        · exact e
        · exact absurd h hj
      subst e
      rw [lv_zeroL_ne is _ hj]
      unfold lv
      rw [List.getD_eq_getElem?_getD, List.getElem?_set]
      simp
      split <;> rfl
theorem EV.wiped {K : PySem.W.Frag} {A : Lv} {P : AP} {ρ : En} {σ : L2.St} {H : Hp} (h : EV K A P ρ σ H) (vs : List Nat) : EV K (zeroL A vs) P (wipeE ρ vs) (wipe σ vs) H := ⟨by rw [wipeE_len, wipe_length, h.len], fun i d e => by
  rw [wipeE_get] at e
  by_cases hi : i ∈ vs
  · rw [if_pos hi] at e
    split at e <;> cases e
  · rw [if_neg hi] at e
    obtain ⟨v, S, a, b, r⟩ := h.get i d e
    rw [lv_zeroL_ne vs A hi, wipe_get, if_neg hi]
    exact ⟨v, S, a, b, r⟩⟩
/-- a shared value is put into a slot that owns nothing -/
theorem EV.set0 {K : PySem.W.Frag} {A : Lv} {P : AP} {ρ : En} {σ : L2.St} {H : Hp} {i : Nat} {v : V} {d : D} (h : EV K A P ρ σ H) (hi : lv A i = 0) (r : Rp K H P 0 [] v d) : EV K A P (ρ.set i (some d)) (σ.set i (some v)) H := ⟨by simp [h.len], fun j d' e => by
  by_cases hj : i = j
  · subst hj
    have hl : i < ρ.length := by
      rcases Nat.lt_or_ge i ρ.length with z | z
      · exact z
      · rw [List.getElem?_eq_none (by simpa using z)] at e; cases e
    rw [List.getElem?_set_self hl] at e
    cases e
    rw [List.getElem?_set_self (by rw [← h.len]; exact hl), hi]
    exact ⟨v, [], rfl, Nat.zero_le _, r⟩
  · rw [List.getElem?_set_ne hj] at e
    rw [List.getElem?_set_ne hj]
    exact h.get j d' e⟩
/-- the targets' readings -/
def gL : List Nat → TGs
  | [] => gNil
  | i :: is => gCons (gName i) (gL is)
def gT (K : PySem.W.Frag) : Tg → TG
  | .v i => gName i
  | .t is => gTup K is.length (gL is)
theorem gL_ok {K : PySem.W.Frag} {A : Lv} {P : AP} {H : Hp} {own : List Nat} : ∀ {is : List Nat} {ds : List D} {vs : List V} {ρ ρ' : En} {σ : L2.St} {Q : L2.St → Hp → Prop}, EV K A P ρ σ H → (∀ i ∈ is, lv A i = 0) → (∀ i ∈ is, i ∈ own) → RpL K H P 0 [] vs ds → setL ρ is ds = .ok ρ' →
    (∀ σ', EV K A P ρ' σ' H → wipe σ' own = wipe σ own → Q σ' H) → gL is vs σ H Q
  | [], [], vs, ρ, ρ', σ, Q, ev, _, _, r, e, q => by
    rw [RpL.unnil r]
    simp only [setL] at e
    cases e
    exact ⟨rfl, q σ ev rfl⟩
  | i :: is, d :: ds, vs, ρ, ρ', σ, Q, ev, z, w, r, e, q => by
    obtain ⟨v, vs, rfl⟩ := RpL.uncons r
    obtain ⟨r1, r2⟩ := RpL.cons0 r
    refine ⟨v, vs, rfl, ?_⟩
    show gL is vs (σ.set i (some v)) H Q
    exact gL_ok (ev.set0 (z i (by simp)) r1) (fun j hj => z j (by simp [hj])) (fun j hj => w j (by simp [hj])) r2 e fun σ' ev' e' => q σ' ev' (by rw [e', wipe_set (w i (by simp))])
  | [], _ :: _, _, _, _, _, _, _, _, _, _, e, _ => by simp [setL] at e
  | _ :: _, [], _, _, _, _, _, _, _, _, _, e, _ => by simp [setL] at e
theorem gT_ok {K : PySem.W.Frag} {A : Lv} {P : AP} {H : Hp} {own : List Nat} {tg : Tg} {d : D} {v : V} {ρ ρ' : En} {σ : L2.St} {Q : L2.St → Hp → Prop} (ev : EV K A P ρ σ H) (z : ∀ i ∈ tgIx tg, lv A i = 0) (w : ∀ i ∈ tgIx tg, i ∈ own) (r : Rp K H P 0 [] v d) (e : bindT tg d ρ = .ok ρ')
    (q : ∀ σ', EV K A P ρ' σ' H → wipe σ' own = wipe σ own → Q σ' H) : gT K tg v σ H Q := by
  cases tg with
  | v i =>
    simp only [bindT] at e
    cases e
    exact q _ (ev.set0 (z i (by simp [tgIx])) r) (wipe_set (w i (by simp [tgIx])))
  | t is =>
    cases d <;> simp only [bindT, reduceCtorEq] at e
    cases r with
    | tup ht hl =>
      refine ⟨_, _, rfl, ht, ?_, gL_ok ev z w hl e q⟩
      have : ∀ {is : List Nat} {ds : List D} {ρ ρ' : En}, setL ρ is ds = .ok ρ' → ds.length = is.length := fun {is} => by
        induction is with
        | nil => intro ds ρ ρ' e; cases ds <;> simp [setL] at e ⊢
        | cons i is ih => intro ds ρ ρ' e; cases ds <;> simp only [setL, reduceCtorEq] at e; simp [ih e]
      rw [hl.len]
      exact this e
section
variable {X : Cx} {sc : Scope}
theorem pg_go (g : GX X sc) (nd : X.N.Nodup) : ∀ {is : List Nat} {es : List Expr}, mTg.go X.N sc is es = true → PGs X es (gL is)
  | [], [], _ => pgs_nil
  | i :: is, e :: es, h => by
    cases e <;> simp only [mTg.go, reduceCtorEq] at h
    simp only [Bool.and_eq_true, beq_iff_eq] at h
    have l := g.loc _ h.1.2
    exact pgs_cons (pg_name nd h.1.1 l.1 l.2) (pg_go g nd h.2)
  | [], _ :: _, h => by simp [mTg.go] at h
  | _ :: _, [], h => by simp [mTg.go] at h
theorem pg_tg (g : GX X sc) (nd : X.N.Nodup) (hc : X.calm = true) {tg : Tg} {e : Expr} (h : mTg X.N sc tg e = true) : PG X e (gT X.K tg) := by
  cases tg with
  | v i =>
    cases e <;> simp only [mTg, reduceCtorEq] at h
    simp only [Bool.and_eq_true, beq_iff_eq] at h
    have l := g.loc _ h.2
    exact pg_name nd h.1 l.1 l.2
  | t is =>
    cases e <;> simp only [mTg, reduceCtorEq] at h
    rename_i es _ _
    have hl : ∀ {is : List Nat} {es : List Expr}, mTg.go X.N sc is es = true → (assignEach es X.env).length = is.length ∧ (assignEach es X.env).findIdx? (·.1) = none := fun {is} => by
      induction is with
      | nil =>
        intro es h
        cases es with
        | nil => exact ⟨rfl, rfl⟩
        | cons e es => simp [mTg.go] at h
      | cons i is ih =>
        intro es h
        cases es with
        | nil => simp [mTg.go] at h
        | cons e es =>
          cases e <;> simp only [mTg.go, reduceCtorEq] at h
          simp only [Bool.and_eq_true] at h
          obtain ⟨h1, h2⟩ := ih h.2
          refine ⟨?_, ?_⟩
          · show (assignEach es X.env).length + 1 = is.length + 1
            rw [h1]
          · show List.findIdx? (·.1) ((false, _) :: assignEach es X.env) = none
            rw [List.findIdx?_cons]
            simp [h2]
    exact pg_tup (n := is.length) hc (pg_go g nd h) (hl h).1 (hl h).2
end
end TW

/-! comprehensions; all terms -/
namespace TW
open PySem PySem.Spec PyProof.Rows L2

theorem nox_ok {α : Type} {r : R α} {a : α} (h : r.nox = .ok a) : r = .ok a := by
  cases r <;> simp only [R.nox, reduceCtorEq] at h
  exact h
theorem nox_noexc {α : Type} (r : R α) (n : Nat) (i : Int) : r.nox ≠ .exc n i := by cases r <;> simp [R.nox]
theorem bind_ok' {α β : Type} {r : R α} {f : α → R β} {b : β} (h : r.bind f = .ok b) : ∃ a, r = .ok a ∧ f a = .ok b := by
  cases r <;> simp only [R.bind, reduceCtorEq] at h
  exact ⟨_, rfl, h⟩
theorem lcGo_ok {f : D → R (Option D)} : ∀ {xs ys : List D}, lcGo f xs = .ok ys → ys.length ≤ LIM ∧ ∃ os : List (Option D), os.length = xs.length ∧ (∀ (i : Nat) (x : D), xs[i]? = some x → ∃ o, os[i]? = some o ∧ f x = .ok o) ∧ ys = os.filterMap id
  | [], ys, h => by
    simp only [lcGo] at h
    cases h
    exact ⟨Nat.zero_le _, [], rfl, fun i x e => by simp at e, rfl⟩
  | x :: xs, ys, h => by
    simp only [lcGo] at h
    obtain ⟨o, h1, h⟩ := bind_ok' h
    obtain ⟨zs, h2, h⟩ := bind_ok' h
    obtain ⟨hz, os, hl, ho, rfl⟩ := lcGo_ok h2
    have key : ∀ (i : Nat) (y : D), (x :: xs)[i]? = some y → ∃ o', (o :: os)[i]? = some o' ∧ f y = .ok o' := fun i y e => by
      cases i with
      | zero => simp at e; subst e; exact ⟨o, rfl, nox_ok h1⟩
      | succ i => obtain ⟨o', q1, q2⟩ := ho i y (by simpa using e); exact ⟨o', by simpa using q1, q2⟩
    cases o with
    | none =>
      cases h
      exact ⟨hz, none :: os, by simp [hl], key, by simp⟩
    | some y =>
      dsimp only at h
      split at h
      · cases h
        refine ⟨?_, some y :: os, by simp [hl], key, by simp⟩
        simp only [List.length_cons]
        omega
      · cases h
theorem lcGo_noexc {f : D → R (Option D)} : ∀ (xs : List D) (n : Nat) (i : Int), lcGo f xs ≠ .exc n i
  | [], n, i => by simp [lcGo]
  | x :: xs, n, i => by
    simp only [lcGo]
    cases h : (f x).nox with
    | exc n i => exact absurd h (nox_noexc _ n i)
    | bad => simp [R.bind]
    | ok o =>
      simp only [R.bind]
      cases h2 : lcGo f xs with
      | exc n i => exact absurd h2 (lcGo_noexc xs n i)
      | bad => simp
      | ok ys =>
        simp only
        cases o with
        | none => simp
        | some y => dsimp only; split <;> simp
section
variable {X : Cx} {T : RTs} {F : Fs} {W : WX} {cl : Cl} {k : Nat} {c : Cn} {sc : Scope}

/-- what a comprehension's turn is worth -/
def lcF (F : Fs) (own : List Nat) (tg : Tg) (ifs : L) (e : E) (ρ : En) (x : D) : R (Option D) :=
  (bindT tg x (wipeE ρ own)).bind fun ρ' => (evIfs F ifs ρ').bind fun k => if k then (evE F e ρ').bind fun y => .ok (some y) else .ok none
abbrev W0 : WX := fun _ _ _ _ => False
theorem wx0 {σ : L2.St} {H : Hp} {α : Type} {r : R α} {k : α → Prop} {a : α} (h : r = .ok a) (q : k a) : An W0 cl σ H r k := by subst h; exact q
/-- the tests of a comprehension -/
def gIf (K : PySem.W.Frag) (F : Fs) (cl : Cl) : L → TT
  | .nil => tYes
  | .cons e _ => tTe K F W0 cl e
theorem lc_imp {own : List Nat} {tg : Tg} {it : I} {ifs : L} {e : E} {A : Lv} (ti : ∀ i ∈ tgIx tg, i ∈ own) (hif1 : ∀ a b r, ifs ≠ .cons a (.cons b r)) {σ : L2.St} {H : Hp} {Q : VK}
    (an : tE X.K T F W cl A (.lc own tg it ifs e) σ H Q) : tLc (tI X.K F W cl true A it) (gT X.K tg) (gIf X.K F cl ifs) (tE X.K T F W0 cl (zeroL A own) e) own σ H Q := by
  have le := fr_le T e
  obtain ⟨ρ, P, ev, an⟩ := an
  refine ⟨ρ, P, ev, ?_⟩
  simp only [evE] at an
  refine (An.bind an).imp fun xs _ an J H1 s1 wd => ?_
  intro Dl hD
  have an := An.bind an
  have eqf : (fun x => (bindT tg x (wipeE ρ own)).bind fun ρ' => (evIfs F ifs ρ').bind fun k => if k = true then (evE F e ρ').bind fun y => R.ok (some y) else R.ok none) = lcF F own tg ifs e ρ := rfl
  rw [eqf] at an
  cases hl : lcGo (lcF F own tg ifs e ρ) xs with
  | bad => rw [hl] at an; exact an.elim
  | exc n i => exact absurd hl (lcGo_noexc xs n i)
  | ok ys =>
    rw [hl] at an
    have q : Po X.K H P (up (fr T e)) (.lst ys) Q := an
    obtain ⟨hz, os, hol, ho, rfl⟩ := lcGo_ok hl
    let PA : List Addr → AP := fun S a => (P a ∨ H a = none) ∧ a ≠ Dl ∧ a ∉ S
    refine ⟨fun i m H2 => m + i = xs.length ∧ Same H1 H2 ∧ ∃ acc S, H2 Dl = some (.lst acc) ∧ S.Nodup ∧ (∀ a ∈ S, H1 a = none ∧ a ≠ Dl) ∧ RpL X.K H2 (fun a => PA S a ∧ H2 a ≠ none) (fr T e) S acc ((os.take i).filterMap id), ⟨xs.length, by omega, same_upd hD, [], [], upd_same, .nil, fun _ z => (nomatch z), by simpa using RpL.nil⟩, ?_⟩
    rintro i m H2 ⟨hm, s2, acc, S, hacc, nd, fS, rl⟩
    have keep : Keeps (fun a => true = true ∨ P a ∨ H a = none) [] H1 H2 := .of_same s2
    obtain ⟨wgo, wst⟩ := wd i H2 keep
    cases ex : xs[i]? with
    | none =>
      refine .inl ⟨wst ex, ?_⟩
      have hi : xs.length ≤ i := List.getElem?_eq_none_iff.mp ex
      rw [List.take_of_length_le (by omega)] at rl
      obtain ⟨S', sub, rl'⟩ := RpL.weakN _ rl (dn_up le) le nd
      have hDH : H Dl = none := s1.free hD
      refine q (.ref Dl) H2 (Dl :: S') (s1.trans s2) (List.nodup_cons.mpr ⟨fun z => (fS _ (sub.subset z)).2 rfl, nd.sublist sub⟩) (fun a ha => ?_) (.ow (up_ne _) (up_le le) hacc (rl'.wP fun a z => ?_))
      · rcases List.mem_cons.mp ha with rfl | ha
        · exact hDH
        · exact s1.free (fS a (sub.subset ha)).1
      · rcases z with ⟨⟨z1, z2, z3⟩, _⟩ | ⟨z1, z2⟩
        · exact ⟨z1, fun w => (List.mem_cons.mp w).elim z2 fun w => z3 (sub.subset w)⟩
        · exact ⟨.inr (s1.free (fS a z1).1), fun w => (List.mem_cons.mp w).elim (fS a z1).2 z2⟩
    | some x =>
      have hi : i < xs.length := (List.getElem?_eq_some_iff.mp ex).1
      obtain ⟨wg, wy⟩ := wgo x ex
      obtain ⟨o, eo, fo'⟩ := ho i x ex
      have tk : (os.take (i + 1)).filterMap id = (os.take i).filterMap id ++ o.toList := by
        rw [List.take_add_one, List.filterMap_append, eo]
        cases o <;> simp
      refine .inr ⟨wg, fun H3 => Same H1 H3 ∧ ∃ acc S, H3 Dl = some (.lst acc) ∧ S.Nodup ∧ (∀ a ∈ S, H1 a = none ∧ a ≠ Dl) ∧ RpL X.K H3 (fun a => PA S a ∧ H3 a ≠ none) (fr T e) S acc ((os.take (i + 1)).filterMap id), fun H3 ⟨a, b⟩ => ⟨m - 1, by omega, by omega, a, b⟩, fun v H3 y => ?_⟩
      obtain ⟨s3, rv⟩ := wy v H3 y
      have s23 := s2.trans s3
      simp only [lcF] at fo'
      obtain ⟨ρ', e1, fo'⟩ := bind_ok' fo'
      obtain ⟨kk, e2, fo'⟩ := bind_ok' fo'
      -- the slots' lists are apart from the new list and what its items own
      let PB : AP := fun a => (P a ∨ H a = none) ∧ a ≠ Dl ∧ a ∉ S
      have ev1 : EV X.K A PB ρ σ H3 := ((ev.dom.same s1).same s23).wP fun a ⟨p, hn⟩ => ⟨.inl p, fun z => hn (by subst z; exact s1.free hD), fun z => hn (s1.free (fS a z).1)⟩
      have rvB : Rp X.K H3 PB 0 [] v x := rv.wP fun a ⟨p, hn⟩ => ⟨p, fun z => hn (by subst z; exact hD), fun z => hn (fS a z).1⟩
      refine gT_ok (ev1.wiped own) (fun j hj => lv_zeroL_in own A (ti j hj)) ti rvB e1 fun σ2 ev2 hw => ⟨by rw [hw, wipe_wipe], ?_⟩
      have accD : H3 Dl = some (.lst acc) := s3 _ _ hacc
      have rl3 := RpL.same rl s3
      -- behind the tests
      have behind : ∀ H4, Same H3 H4 → (if kk = true then tE X.K T F W0 cl (zeroL A own) e σ2 H4 fun y H5 => ∃ acc, H5 Dl = some (.lst acc) ∧ acc.length < sizeLine ∧ (Same H1 (upd H5 Dl (.lst (acc ++ [y]))) ∧ ∃ acc' S, (upd H5 Dl (.lst (acc ++ [y]))) Dl = some (.lst acc') ∧ S.Nodup ∧ (∀ a ∈ S, H1 a = none ∧ a ≠ Dl) ∧ RpL X.K (upd H5 Dl (.lst (acc ++ [y]))) (fun a => PA S a ∧ (upd H5 Dl (.lst (acc ++ [y]))) a ≠ none) (fr T e) S acc' ((os.take (i + 1)).filterMap id))
          else Same H1 H4 ∧ ∃ acc S, H4 Dl = some (.lst acc) ∧ S.Nodup ∧ (∀ a ∈ S, H1 a = none ∧ a ≠ Dl) ∧ RpL X.K H4 (fun a => PA S a ∧ H4 a ≠ none) (fr T e) S acc ((os.take (i + 1)).filterMap id)) := fun H4 s4 => by
        cases kk with
        | false =>
          cases fo'
          refine iteF ⟨s23.trans s4, acc, S, s4 _ _ accD, nd, fS, ?_⟩
          rw [tk, Option.toList_none, List.append_nil]
          exact (rl3.same s4).wP fun a ⟨p, hn⟩ => ⟨p, fun z => hn (s3.free (s4.free z) )⟩
        | true =>
          rw [if_pos rfl] at fo'
          obtain ⟨yd, e3, fo'⟩ := bind_ok' fo'
          cases fo'
          refine iteT ⟨ρ', PB, ev2.same s4, wx0 e3 ?_⟩
          intro y H5 S5 s5 nd5 f5 r5
          have accD5 : H5 Dl = some (.lst acc) := s5 _ _ (s4 _ _ accD)
          have hlen : acc.length < sizeLine := by
            rw [rl.len, sizeLine_LIM]
            have h1 : ((os.take (i + 1)).filterMap id).length ≤ (os.filterMap id).length := by
              have : os.filterMap id = (os.take (i + 1)).filterMap id ++ (os.drop (i + 1)).filterMap id := by rw [← List.filterMap_append, List.take_append_drop]
              rw [this, List.length_append]
              omega
            rw [tk, Option.toList_some, List.length_append] at h1
            simp only [List.length_cons, List.length_nil] at h1
            omega
          have sD : Same H1 (upd H5 Dl (.lst (acc ++ [y]))) := fun b o e => by
            rw [upd_ne (ne_of_none e hD)]
            exact s5 _ _ (s4 _ _ (s23 _ _ e))
          have s45 := s4.trans s5
          refine ⟨acc, accD5, hlen, sD, acc ++ [y], S ++ S5, upd_same, ?_, ?_, ?_⟩
          · refine List.nodup_append.mpr ⟨nd, nd5, fun a ha b hb e => ?_⟩
            subst e
            obtain ⟨w, ew⟩ := RpL.own _ rl3 a ha
            have := f5 a hb
            rw [s4 _ _ ew] at this
            cases this
          · intro a ha
            rcases List.mem_append.mp ha with ha | ha
            · exact fS a ha
            · refine ⟨s23.free (s4.free (f5 a ha)), fun e => ?_⟩
              subst e
              have := f5 _ ha
              rw [s4 _ _ accD] at this
              cases this
          · rw [tk, Option.toList_some]
            have h4S5 : ∀ a, H3 a ≠ none → a ∉ S5 := fun a hn z => hn (s4.free (f5 a z))
            have hS4 : ∀ a ∈ S, H4 a ≠ none := fun a ha => by obtain ⟨w, ew⟩ := RpL.own _ rl3 a ha; rw [s4 _ _ ew]; simp
            have k1 : Keeps (fun a => PA S a ∧ H2 a ≠ none) S H3 (upd H5 Dl (.lst (acc ++ [y]))) := fun b o e q => by
              by_cases hb : b = Dl
              · subst hb
                rcases q with q | q | q
                · exact absurd rfl (fS _ q).2
                · exact absurd rfl q.1.2.1
                · rw [accD] at e; cases e; exact q.elim
              · rw [upd_ne hb]
                exact s45 _ _ e
            have k2 : Keeps (fun a => (PB a ∨ H4 a = none) ∧ a ∉ S5) S5 H5 (upd H5 Dl (.lst (acc ++ [y]))) := fun b o e q => by
              by_cases hb : b = Dl
              · subst hb
                rcases q with q | q | q
                · have := f5 _ q; rw [s4 _ _ accD] at this; cases this
                · rcases q.1 with z | z
                  · exact absurd rfl z.2.1
                  · rw [s4 _ _ accD] at z; cases z
                · rw [accD5] at e; cases e; exact q.elim
              · rw [upd_ne hb]
                exact e
            have up1 : RpL X.K (upd H5 Dl (.lst (acc ++ [y]))) (fun a => PA (S ++ S5) a ∧ (upd H5 Dl (.lst (acc ++ [y]))) a ≠ none) (fr T e) S acc ((os.take i).filterMap id) := by
              have a1 := RpL.frame _ rl3 k1 fun a p => p
              refine (RpL.dom _ a1).wP fun a ⟨⟨⟨p1, p2, p3⟩, p4⟩, p5⟩ => ⟨⟨p1, p2, fun z => (List.mem_append.mp z).elim p3 fun z => h4S5 a (fun w => p4 (s3.free w)) z⟩, p5⟩
            have up2 : Rp X.K (upd H5 Dl (.lst (acc ++ [y]))) (fun a => PA (S ++ S5) a ∧ (upd H5 Dl (.lst (acc ++ [y]))) a ≠ none) (fr T e) S5 y yd := by
              have a1 := Rp.frame _ r5 k2 fun a p => p
              refine (Rp.dom _ a1).wP fun a ⟨⟨p1, p2⟩, p5⟩ => ⟨?_, p5⟩
              rcases p1 with ⟨z1, z2, z3⟩ | z
              · exact ⟨z1, z2, fun w => (List.mem_append.mp w).elim z3 p2⟩
              · refine ⟨.inr (s1.free (s23.free (s4.free z))), fun w => ?_, fun w => (List.mem_append.mp w).elim (fun w => hS4 a w z) p2⟩
                subst w
                rw [s4 _ _ accD] at z
                cases z
            have up3 : RpL X.K (upd H5 Dl (.lst (acc ++ [y]))) (fun a => PA (S ++ S5) a ∧ (upd H5 Dl (.lst (acc ++ [y]))) a ≠ none) (fr T e) (S5 ++ []) [y] [yd] := .cons up2 .nil
            rw [List.append_nil] at up3
            exact RpL.append up1 up3
      cases ifs with
      | nil =>
        simp only [evIfs] at e2
        cases e2
        exact behind H3 (Same.refl _)
      | cons a r =>
        cases r with
        | cons b r => exact absurd rfl (hif1 a b r)
        | nil =>
          simp only [evIfs] at e2
          obtain ⟨da, e4, e5⟩ := bind_ok' e2
          have e5 : tru da = .ok kk := e5
          refine ⟨ρ', ev2.free, wx0 (a := kk) ?_ fun H4 s4 => behind H4 s4⟩
          rw [e4]
          exact e5
theorem s_lc {own : List Nat} {tg : Tg} {it : I} {ifs : L} {e : E} {tga ita elt : Expr} {ifa : List Expr} {scope : Scope} {pos : Pos} (xc : XC X k c T F cl) (ti : ∀ i ∈ tgIx tg, i ∈ own) (bo : BlkOk X.N X.env.scope scope (own.map fun i => (X.N.getD i "", i)))
    (hi : SndI X T F W cl it tga ita) (fo : ∀ v, foldedSetIterable ita X.env v = pure v) (htg : mTg X.N scope tg tga = true)
    (hifs : ∀ (s : Shared) (H : Hp) (C : Addr) (cll : List (Str × Addr)) (fp : List Addr), PTs (X.blk s H scope (compEnvC scope cll C X.env) fp) ifa (gIf X.K F cl ifs)) (hif1 : ∀ a b r, ifs ≠ .cons a (.cons b r))
    (he : ∀ (s : Shared) (H : Hp) (C : Addr) (cll : List (Str × Addr)) (fp : List Addr), Snd (X.blk s H scope (compEnvC scope cll C X.env) fp) T F W0 cl e elt) :
    Snd X T F W cl (.lc own tg it ifs e) (.ListComp elt [⟨tga, ita, ifa, 0⟩] scope pos) := fun A ok => by
  simp only [okS, Bool.and_eq_true] at ok
  have oe : okM T (zeroL A own) e = true := ok.2
  have le := fr_le T e
  have ownm : (own.map fun i => (X.N.getD i "", i)).map (·.2) = own := by rw [List.map_map]; exact List.map_id' own
  have pe := pe_lc (X := X) (pos := pos) (te := tE X.K T F W0 cl (zeroL A own) e) (g := gT X.K tg) (tt := gIf X.K F cl ifs) xc.calm xc.nd (hi true A (by exact ok.1)) bo (fun s H C cll fp => pg_tg (X := X.blk s H scope (compEnvC scope cll C X.env) fp) GX.blk xc.nd xc.calm htg) hifs
    (fun s H C cll fp => modeM (he s H C cll fp) (A := zeroL A own) oe) fo
  rw [ownm] at pe
  exact PE.imp pe fun σ H Q h => lc_imp ti hif1 h
theorem s_setLc {own : List Nat} {tg : Tg} {it : I} {ifs : L} {e : E} {tga ita elt : Expr} {ifa : List Expr} {scope : Scope} {pos spos py : Pos} {i : Nat} {y : Str} (xc : XC X k c T F cl) (ti : ∀ i ∈ tgIx tg, i ∈ own) (bo : BlkOk X.N X.env.scope scope (own.map fun i => (X.N.getD i "", i)))
    (hi : SndI X T F W cl it tga ita) (fo : ∀ v, foldedSetIterable ita X.env v = pure v) (htg : mTg X.N scope tg tga = true)
    (hifs : ∀ (s : Shared) (H : Hp) (C : Addr) (cll : List (Str × Addr)) (fp : List Addr), PTs (X.blk s H scope (compEnvC scope cll C X.env) fp) ifa (gIf X.K F cl ifs)) (hif1 : ∀ a b r, ifs ≠ .cons a (.cons b r))
    (he : ∀ (s : Shared) (H : Hp) (C : Addr) (cll : List (Str × Addr)) (fp : List Addr), Snd (X.blk s H scope (compEnvC scope cll C X.env) fp) T F W0 cl e elt)
    (hy : X.N[i]? = some y) (hyl : X.env.scope.names.lookup y = some .local) (hsw : swapsWith (.ListComp elt [⟨tga, ita, ifa, 0⟩] scope pos) (some (.Name y py)) spos.line X.env = pure true) {A : Lv} (ok : okS T A (.lc own tg it ifs e) = true) :
    PS X (.Assign [.Name y py] (.ListComp elt [⟨tga, ita, ifa, 0⟩] scope pos) spos) (tAsg (tE X.K T F W cl A (.lc own tg it ifs e)) (gName i)) := by
  simp only [okS, Bool.and_eq_true] at ok
  have oe : okM T (zeroL A own) e = true := ok.2
  have ownm : (own.map fun i => (X.N.getD i "", i)).map (·.2) = own := by rw [List.map_map]; exact List.map_id' own
  have pe := ps_setLc (X := X) (pos := pos) (te := tE X.K T F W0 cl (zeroL A own) e) (g := gT X.K tg) (tt := gIf X.K F cl ifs) xc.calm xc.nd hy hyl hsw (hi true A (by exact ok.1)) bo (fun s H C cll fp => pg_tg (X := X.blk s H scope (compEnvC scope cll C X.env) fp) GX.blk xc.nd xc.calm htg) hifs
    (fun s H C cll fp => modeM (he s H C cll fp) (A := zeroL A own) oe) fo
  rw [ownm] at pe
  exact PS.imp pe fun D σ H h => lc_imp ti hif1 h
end
end TW

/-! all terms -/
namespace TW
open PySem PySem.Spec PyProof.Rows L2
section
variable {T : RTs} {F : Fs} {cl : Cl} {k : Nat} {c : Cn}
theorem XC.blk {X : Cx} (h : XC X k c T F cl) {s : Shared} {H : Hp} {scope : Scope} {env : Env} {fp : List Addr} : XC (X.blk s H scope env fp) k c T F cl := ⟨h.calm, h.nd, h.gu, h.room, h.blt, h.glb, h.fns⟩
theorem takesW0 {X : Cx} : Takes X W0 := fun _ _ x => by
  obtain ⟨_, _, _, _, _, _, _, _, _, _, _, _, _, _, _, _, z⟩ := x
  exact z.elim
theorem blk_of {X : Cx} {sc scope : Scope} {own : List (Str × Nat)} (g : GX X sc) (h : blkC X.N sc scope own = true) : BlkOk X.N X.env.scope scope own := by
  have b := blkOk_by h
  exact ⟨b.kind, b.uniq, b.ix, fun y hy e => g.cf _ (b.free y hy e), b.own⟩
theorem mI_plain {N : List Str} {c : Cn} {sc : Scope} {it : I} {tg x : Expr} (h : mI N c sc it tg x = true) : plainX x = true := by
  cases it with
  | it e => exact mE_plain (by simpa only [mI] using h)
  | rg1 a => cases x <;> first | rfl | (exfalso; simp [mI] at h; done)
  | rg2 a b => cases x <;> first | rfl | (exfalso; simp [mI] at h; done)
  | enum a => cases tg <;> first | (exfalso; simp [mI] at h; done) | (cases x <;> first | rfl | (exfalso; simp [mI] at h; done))
  | zip a b => cases tg <;> first | (exfalso; simp [mI] at h; done) | (cases x <;> first | rfl | (exfalso; simp [mI] at h; done))
mutual
theorem snd (hk : True) : ∀ (e : E) {X : Cx} {W : WX} {sc : Scope} {ast : Expr}, XC X k c T F cl → GX X sc → Takes X W → mE X.N c sc e ast = true → Snd X T F W cl e ast ∧ SndT X F W cl e ast
  | .var i, X, W, sc, ast, xc, g, tk, h => by
    have s : Snd X T F W cl (.var i) ast := s_var g h
    refine ⟨s, t_plain ?_ s⟩
    cases ast <;> simp only [mE, reduceCtorEq] at h
    rfl
  | .cst v, X, W, sc, ast, xc, g, tk, h => by
    have s : Snd X T F W cl (.cst v) ast := s_cst (c := c) (sc := sc) h
    refine ⟨s, t_plain ?_ s⟩
    cases ast <;> simp only [mE, reduceCtorEq] at h
    rfl
  | .glb x v, X, W, sc, ast, xc, g, tk, h => by
    have s : Snd X T F W cl (.glb x v) ast := s_glb xc g h
    refine ⟨s, t_plain ?_ s⟩
    cases ast <;> simp only [mE, reduceCtorEq] at h
    rfl
  | .bin o a b, X, W, sc, ast, xc, g, tk, h => by
    cases ast <;> simp only [mE, reduceCtorEq] at h
    simp only [Bool.and_eq_true, beq_iff_eq] at h
    obtain ⟨⟨rfl, h1⟩, h2⟩ := h
    have s := s_bin (pos := by assumption) (snd hk a xc g tk h1).1 (snd hk b xc g tk h2).1 g h1 h2 (o := o)
    exact ⟨s, t_plain rfl s⟩
  | .neg a, X, W, sc, ast, xc, g, tk, h => by
    cases ast <;> simp only [mE, reduceCtorEq] at h
    simp only [Bool.and_eq_true, beq_iff_eq] at h
    obtain ⟨rfl, h1⟩ := h
    have s := s_neg (pos := by assumption) (snd hk a xc g tk h1).1
    exact ⟨s, t_plain rfl s⟩
  | .cmp o a b, X, W, sc, ast, xc, g, tk, h => by
    cases ast <;> try (simp only [mE, reduceCtorEq] at h; done)
    rename_i x ops ys pos
    match ops, ys, h with
    | [op], [y], h =>
      simp only [mE, Bool.and_eq_true, beq_iff_eq] at h
      obtain ⟨⟨rfl, h1⟩, h2⟩ := h
      exact ⟨s_cmp xc.units (snd hk a xc g tk h1).1 (snd hk b xc g tk h2).1 (mE_plain h2), t_cmp xc.units (snd hk a xc g tk h1).1 (snd hk b xc g tk h2).1 (mE_plain h2)⟩
    | [], _, h => simp [mE] at h
    | _ :: _ :: _, _, h => simp [mE] at h
    | [_], [], h => simp [mE] at h
    | [_], _ :: _ :: _, h => simp [mE] at h
  | .chn o p a b d, X, W, sc, ast, xc, g, tk, h => by
    cases ast <;> try (simp only [mE, reduceCtorEq] at h; done)
    rename_i x ops ys pos
    match ops, ys, h with
    | [op, oq], [y, z], h =>
      simp only [mE, Bool.and_eq_true, beq_iff_eq] at h
      obtain ⟨⟨⟨⟨⟨⟨rfl, rfl⟩, _⟩, _⟩, h1⟩, h2⟩, h3⟩ := h
      exact ⟨s_chn xc.units (snd hk a xc g tk h1).1 (snd hk b xc g tk h2).1 (snd hk d xc g tk h3).1 (mE_plain h2) (mE_plain h3), t_chn xc.units (snd hk a xc g tk h1).1 (snd hk b xc g tk h2).1 (snd hk d xc g tk h3).1 (mE_plain h2) (mE_plain h3)⟩
    | [], _, h => simp [mE] at h
    | [_], _, h => simp [mE] at h
    | _ :: _ :: _ :: _, _, h => simp [mE] at h
    | [_, _], [], h => simp [mE] at h
    | [_, _], [_], h => simp [mE] at h
    | [_, _], _ :: _ :: _ :: _, h => simp [mE] at h
  | .and e es, X, W, sc, ast, xc, g, tk, h => by
    cases ast <;> try (simp only [mE, reduceCtorEq] at h; done)
    rename_i op xs pos
    match xs, h with
    | x :: xs, h =>
      simp only [mE, Bool.and_eq_true, beq_iff_eq] at h
      obtain ⟨⟨rfl, h1⟩, h2⟩ := h
      have a := snd hk e xc g tk h1
      have b := sndL hk es xc g tk h2
      exact ⟨s_and a.1 b.2.1, t_and a.2 b.2.2⟩
    | [], h => simp [mE] at h
  | .or e es, X, W, sc, ast, xc, g, tk, h => by
    cases ast <;> try (simp only [mE, reduceCtorEq] at h; done)
    rename_i op xs pos
    match xs, h with
    | x :: xs, h =>
      simp only [mE, Bool.and_eq_true, beq_iff_eq] at h
      obtain ⟨⟨rfl, h1⟩, h2⟩ := h
      have a := snd hk e xc g tk h1
      have b := sndL hk es xc g tk h2
      exact ⟨s_or a.1 b.2.1, t_or a.2 b.2.2⟩
    | [], h => simp [mE] at h
  | .not a, X, W, sc, ast, xc, g, tk, h => by
    cases ast <;> simp only [mE, reduceCtorEq] at h
    simp only [Bool.and_eq_true, beq_iff_eq] at h
    obtain ⟨rfl, h1⟩ := h
    have s := snd hk a xc g tk h1
    exact ⟨s_not s.1, t_not s.2⟩
  | .ife t a b, X, W, sc, ast, xc, g, tk, h => by
    cases ast <;> simp only [mE, reduceCtorEq] at h
    simp only [Bool.and_eq_true] at h
    obtain ⟨⟨h1, h2⟩, h3⟩ := h
    have s1 := snd hk t xc g tk h1
    have s2 := snd hk a xc g tk h2
    have s3 := snd hk b xc g tk h3
    exact ⟨s_ife s1.2 s2.1 s3.1, t_ife s1.2 s2.2 s3.2⟩
  | .lst es, X, W, sc, ast, xc, g, tk, h => by
    cases ast <;> simp only [mE, reduceCtorEq] at h
    have s := s_lst (pos := by assumption) (sndL hk es xc g tk h).1
    exact ⟨s, t_plain rfl s⟩
  | .tup es, X, W, sc, ast, xc, g, tk, h => by
    cases ast <;> simp only [mE, reduceCtorEq] at h
    rename_i xs n pos
    have s := s_tup (n := n) (pos := pos) (sndL hk es xc g tk h).1
    exact ⟨s, t_plain rfl s⟩
  | .idx a i, X, W, sc, ast, xc, g, tk, h => by
    cases ast <;> simp only [mE, reduceCtorEq] at h
    simp only [Bool.and_eq_true] at h
    have s := s_idx (pos := by assumption) g h.1 (mE_plain h.2) (snd hk a xc g tk h.1).1 (snd hk i xc g tk h.2).1
    exact ⟨s, t_plain rfl s⟩
  | .slc a lo hi, X, W, sc, ast, xc, g, tk, h => by
    cases ast <;> try (simp only [mE, reduceCtorEq] at h; done)
    rename_i x sl pos
    cases sl <;> try (simp only [mE, reduceCtorEq] at h; done)
    rename_i l hh st p2
    cases st with
    | some _ => simp [mE] at h
    | none =>
      simp only [mE, Bool.and_eq_true] at h
      have s := s_slc (p2 := p2) (pos := pos) g h.1.1 (snd hk a xc g tk h.1.1).1 (sndO hk lo xc g tk h.1.2) (sndO hk hi xc g tk h.2)
      exact ⟨s, t_plain rfl s⟩
  | .c1 f a, X, W, sc, ast, xc, g, tk, h => by
    cases ast <;> try (simp only [mE, reduceCtorEq] at h; done)
    rename_i fn args kws pos
    cases fn <;> try (simp only [mE, reduceCtorEq] at h; done)
    match args, kws, h with
    | [y], [], h =>
      simp only [mE, Bool.and_eq_true, beq_iff_eq] at h
      obtain ⟨⟨rfl, h1⟩, h2⟩ := h
      have s := s_c1 (p := by assumption) (pos := pos) xc g h1 h2 (snd hk a xc g tk h2).1
      exact ⟨s, t_plain rfl s⟩
    | [], _, h => simp [mE] at h
    | _ :: _ :: _, _, h => simp [mE] at h
    | [_], _ :: _, h => simp [mE] at h
  | .c2 f a b, X, W, sc, ast, xc, g, tk, h => by
    cases ast <;> try (simp only [mE, reduceCtorEq] at h; done)
    rename_i fn args kws pos
    cases fn <;> try (simp only [mE, reduceCtorEq] at h; done)
    match args, kws, h with
    | [y, z], [], h =>
      simp only [mE, Bool.and_eq_true, beq_iff_eq] at h
      obtain ⟨⟨⟨rfl, h1⟩, h2⟩, h3⟩ := h
      have s := s_c2 (p := by assumption) (pos := pos) xc g h1 (mE_plain h2) (mE_plain h3) (snd hk a xc g tk h2).1 (snd hk b xc g tk h3).1
      exact ⟨s, t_plain rfl s⟩
    | [], _, h => simp [mE] at h
    | [_], _, h => simp [mE] at h
    | _ :: _ :: _ :: _, _, h => simp [mE] at h
    | [_, _], _ :: _, h => simp [mE] at h
  | .mth m a b, X, W, sc, ast, xc, g, tk, h => by
    cases ast <;> try (simp only [mE, reduceCtorEq] at h; done)
    rename_i fn args kws pos
    cases fn <;> try (simp only [mE, reduceCtorEq] at h; done)
    match args, kws, h with
    | [y], [], h =>
      simp only [mE, Bool.and_eq_true, beq_iff_eq] at h
      obtain ⟨⟨⟨⟨rfl, h1⟩, h2⟩, h3⟩, h4⟩ := h
      have s := s_mth (m := m) (pos := pos) h1 (by simpa using h2) (mE_plain h4) (snd hk a xc g tk h3).1 (snd hk b xc g tk h4).1
      exact ⟨s, t_plain rfl s⟩
    | [], _, h => simp [mE] at h
    | _ :: _ :: _, _, h => simp [mE] at h
    | [_], _ :: _, h => simp [mE] at h
  | .fn f x es, X, W, sc, ast, xc, g, tk, h => by
    cases ast <;> try (simp only [mE, reduceCtorEq] at h; done)
    rename_i fn args kws pos
    cases fn <;> try (simp only [mE, reduceCtorEq] at h; done)
    match kws, h with
    | [], h =>
      simp only [mE, Bool.and_eq_true, beq_iff_eq, nameOk, bne_iff_ne, ne_eq] at h
      obtain ⟨⟨⟨⟨rfl, h1⟩, h2⟩, h3, _⟩, h4⟩ := h
      have s := s_fn (p := by assumption) (pos := pos) xc g tk h1 h2 (by simpa using h3) h4 (sndL hk es xc g tk h4).1
      exact ⟨s, t_plain rfl s⟩
    | _ :: _, h => simp [mE] at h
  | .lc own tg it ifs e, X, W, sc, ast, xc, g, tk, h => by
    cases ast <;> try (simp only [mE, reduceCtorEq] at h; done)
    rename_i elt gens scope pos
    match gens, h with
    | [⟨tga, ita, ifa, asy⟩], h =>
      simp only [mE, Bool.and_eq_true, beq_iff_eq] at h
      obtain ⟨⟨⟨⟨⟨⟨⟨rfl, h0⟩, h1⟩, h2⟩, h3⟩, h4⟩, h5⟩, h6⟩ := h
      have sp : plainX ita = true := mI_plain h4
      have one : ∀ a b r, ifs ≠ .cons a (.cons b r) := fun a b r e => by subst e; simp [oneIf] at h0
      have s : Snd X T F W cl (.lc own tg it ifs e) (.ListComp elt [⟨tga, ita, ifa, 0⟩] scope pos) := s_lc xc (fun i hi => by simpa using List.all_eq_true.mp h1 i hi) (blk_of g h2) (sndI hk it xc g tk h4) (folded_plain sp _) h3
        (fun s H C cll fp => by
          have bl := sndL hk ifs (X := X.blk s H scope (compEnvC scope cll C X.env) fp) xc.blk GX.blk takesW0 h5
          cases ifs with
          | nil =>
            cases ifa with
            | nil => exact pts_nil
            | cons _ _ => simp [mL] at h5
          | cons a r =>
            cases r with
            | cons b r => exact absurd rfl (one a b r)
            | nil =>
              cases ifa with
              | nil => simp [mL] at h5
              | cons y ys =>
                cases ys with
                | cons _ _ => simp [mL] at h5
                | nil => exact pts_one bl.2.2.1) one
        (fun s H C cll fp => (snd hk e (X := X.blk s H scope (compEnvC scope cll C X.env) fp) xc.blk GX.blk takesW0 h6).1)
      exact ⟨s, t_plain rfl s⟩
    | [], h => simp [mE] at h
    | _ :: _ :: _, h => simp [mE] at h
theorem sndL (hk : True) : ∀ (es : L) {X : Cx} {W : WX} {sc : Scope} {xs : List Expr}, XC X k c T F cl → GX X sc → Takes X W → mL X.N c sc es xs = true → SndL X T F W cl es xs ∧ SndAll X T F W cl es xs ∧ SndTAll X F W cl es xs
  | .nil, X, W, sc, [], xc, g, tk, h => ⟨l_nil, trivial, trivial⟩
  | .cons e es, X, W, sc, x :: xs, xc, g, tk, h => by
    simp only [mL, Bool.and_eq_true] at h
    have a := snd hk e xc g tk h.1
    have b := sndL hk es xc g tk h.2
    exact ⟨l_cons (mE_plain h.1) a.1 b.1, ⟨a.1, b.2.1⟩, a.2, b.2.2⟩
  | .nil, _, _, _, _ :: _, _, _, _, h => by simp [mL] at h
  | .cons _ _, _, _, _, [], _, _, _, h => by simp [mL] at h
theorem sndO (hk : True) : ∀ (o : O) {X : Cx} {W : WX} {sc : Scope} {x : Option Expr}, XC X k c T F cl → GX X sc → Takes X W → mO X.N c sc o x = true → SndO X F W cl o x
  | .no, X, W, sc, none, xc, g, tk, h => o_no
  | .so e, X, W, sc, some x, xc, g, tk, h => by
    simp only [mO] at h
    exact o_so (snd hk e xc g tk h).1
  | .no, _, _, _, some _, _, _, _, h => by simp [mO] at h
  | .so _, _, _, _, none, _, _, _, h => by simp [mO] at h
theorem sndI (hk : True) : ∀ (it : I) {X : Cx} {W : WX} {sc : Scope} {tg x : Expr}, XC X k c T F cl → GX X sc → Takes X W → mI X.N c sc it tg x = true → SndI X T F W cl it tg x
  | .it e, X, W, sc, tg, x, xc, g, tk, h => by
    have h' : mE X.N c sc e x = true := by simpa only [mI] using h
    exact i_it g h' (snd hk e xc g tk h').1
  | .rg1 a, X, W, sc, tg, x, xc, g, tk, h => by
    cases x <;> try (simp only [mI, reduceCtorEq] at h; done)
    rename_i fn args kws pos
    cases fn <;> try (simp only [mI, reduceCtorEq] at h; done)
    match args, kws, h with
    | [y], [], h =>
      rename_i nm _ _
      have h : (nm == ("range" : Str) && glB sc nm && mE X.N c sc a y) = true := by simpa only [mI] using h
      simp only [Bool.and_eq_true, beq_iff_eq] at h
      obtain ⟨⟨rfl, h1⟩, h2⟩ := h
      exact i_rg1 xc g h1 (mE_plain h2) (snd hk a xc g tk h2).1
    | [], _, h => simp [mI] at h
    | _ :: _ :: _, _, h => simp [mI] at h
    | [_], _ :: _, h => simp [mI] at h
  | .rg2 a b, X, W, sc, tg, x, xc, g, tk, h => by
    cases x <;> try (simp only [mI, reduceCtorEq] at h; done)
    rename_i fn args kws pos
    cases fn <;> try (simp only [mI, reduceCtorEq] at h; done)
    match args, kws, h with
    | [y, z], [], h =>
      rename_i nm _ _
      have h : (nm == ("range" : Str) && glB sc nm && mE X.N c sc a y && mE X.N c sc b z) = true := by simpa only [mI] using h
      simp only [Bool.and_eq_true, beq_iff_eq] at h
      obtain ⟨⟨⟨rfl, h1⟩, h2⟩, h3⟩ := h
      exact i_rg2 xc g h1 (mE_plain h2) (mE_plain h3) (snd hk a xc g tk h2).1 (snd hk b xc g tk h3).1
    | [], _, h => simp [mI] at h
    | [_], _, h => simp [mI] at h
    | _ :: _ :: _ :: _, _, h => simp [mI] at h
    | [_, _], _ :: _, h => simp [mI] at h
  | .enum a, X, W, sc, tg, x, xc, g, tk, h => by
    cases tg <;> try (simp only [mI, reduceCtorEq] at h; done)
    cases x <;> try (simp only [mI, reduceCtorEq] at h; done)
    rename_i fn args kws pos
    cases fn <;> try (simp only [mI, reduceCtorEq] at h; done)
    match args, kws, h with
    | [y], [], h =>
      simp only [mI, Bool.and_eq_true, beq_iff_eq] at h
      obtain ⟨⟨rfl, h1⟩, h2⟩ := h
      exact i_enum xc g h1 h2 (snd hk a xc g tk h2).1
    | [], _, h => simp [mI] at h
    | _ :: _ :: _, _, h => simp [mI] at h
    | [_], _ :: _, h => simp [mI] at h
  | .zip a b, X, W, sc, tg, x, xc, g, tk, h => by
    cases tg <;> try (simp only [mI, reduceCtorEq] at h; done)
    cases x <;> try (simp only [mI, reduceCtorEq] at h; done)
    rename_i fn args kws pos
    cases fn <;> try (simp only [mI, reduceCtorEq] at h; done)
    match args, kws, h with
    | [y, z], [], h =>
      simp only [mI, Bool.and_eq_true, beq_iff_eq] at h
      obtain ⟨⟨⟨rfl, h1⟩, h2⟩, h3⟩ := h
      exact i_zip xc g h1 h2 h3 (snd hk a xc g tk h2).1 (snd hk b xc g tk h3).1
    | [], _, h => simp [mI] at h
    | [_], _, h => simp [mI] at h
    | _ :: _ :: _ :: _, _, h => simp [mI] at h
    | [_, _], _ :: _, h => simp [mI] at h
end
end
end TW

/-! statements: what they are worth; the slots with what they own -/
namespace TW
open PySem PySem.Spec PyProof.Rows L2

inductive Sm where
  | lv (A : List Nat)
  | asg (i : Nat) (e : E) | asgT (is : List Nat) (e : E) | par (i j : Nat) (a b : E)
  | ex (e : E) | app (i : Nat) (e : E) | pop (i : Nat) | set (i : Nat) (k e : E)
  | ite (c : E) (a b : List Sm) | wh (A : List Nat) (c : E) (b : List Sm) | for (A : List Nat) (tg : Tg) (it : I) (b : List Sm)
  | ret (e : E) | retN | brk | pass
inductive Ou where
  | nx (ρ : En) | rt (d : D) | bk (ρ : En)
def Ou.seq (o : Ou) (f : En → R Ou) : R Ou := match o with
  | .nx ρ => f ρ
  | .rt d => .ok (.rt d)
  | .bk ρ => .ok (.bk ρ)
/-- behind a turn -/
def Ou.turn (o : Ou) (f : En → R Ou) : R Ou := match o with
  | .nx ρ => f ρ
  | .rt d => .ok (.rt d)
  | .bk ρ => .ok (.nx ρ)
def whGo (t : En → R Bool) (b : En → R Ou) : Nat → En → R Ou
  | 0, _ => .bad
  | n + 1, ρ => (t ρ).bind fun k => if k then (b ρ).bind fun o => o.turn (whGo t b n) else .ok (.nx ρ)
def forGo (tg : Tg) (b : En → R Ou) : List D → En → R Ou
  | [], ρ => .ok (.nx ρ)
  | x :: xs, ρ => (bindT tg x ρ).bind fun ρ' => (b ρ').bind fun o => o.turn (forGo tg b xs)
def asL : D → R (List D)
  | .lst xs => .ok xs
  | _ => .bad
def setD (xs : List D) (j d : D) : R (List D) := match j with
  | .int n => .ofO ((ixN xs.length n).map fun m => xs.set m d)
  | _ => .bad
mutual
def evS (F : Fs) (fu : Nat) : Sm → En → R Ou
  | .lv _, ρ => .ok (.nx ρ)
  | .asg i e, ρ => (evE F e ρ).bind fun d => .ok (.nx (ρ.set i (some d)))
  | .asgT is e, ρ => (evE F e ρ).bind fun d => (bindT (.t is) d ρ).bind fun ρ' => .ok (.nx ρ')
  | .par i j a b, ρ => (evE F a ρ).bind fun x => (evE F b ρ).bind fun y => .ok (.nx ((ρ.set i (some x)).set j (some y)))
  | .ex e, ρ => (evE F e ρ).bind fun _ => .ok (.nx ρ)
  | .app i e, ρ => ((lk ρ i).bind asL).bind fun xs => (evE F e ρ).bind fun d => if xs.length < LIM then .ok (.nx (ρ.set i (some (.lst (xs ++ [d]))))) else .bad
  | .pop i, ρ => ((lk ρ i).bind asL).bind fun xs => if xs.isEmpty then .bad else .ok (.nx (ρ.set i (some (.lst xs.dropLast))))
  | .set i k e, ρ => (evE F e ρ).bind fun d => ((lk ρ i).bind asL).bind fun xs => (evE F k ρ).bind fun j => (setD xs j d).bind fun ys => .ok (.nx (ρ.set i (some (.lst ys))))
  | .ite c a b, ρ => (evE F c ρ).bind fun x => (tru x).bind fun k => if k then evB F fu a ρ else evB F fu b ρ
  | .wh _ c b, ρ => whGo (fun ρ => (evE F c ρ).bind tru) (evB F fu b) fu ρ
  | .for _ tg it b, ρ => (evI F it ρ).bind fun xs => forGo tg (evB F fu b) xs ρ
  | .ret e, ρ => (evE F e ρ).bind fun d => .ok (.rt d)
  | .retN, _ => .ok (.rt .non)
  | .brk, ρ => .ok (.bk ρ)
  | .pass, ρ => .ok (.nx ρ)
def evB (F : Fs) (fu : Nat) : List Sm → En → R Ou
  | [], ρ => .ok (.nx ρ)
  | s :: ss, ρ => (evS F fu s ρ).bind fun o => o.seq (evB F fu ss)
end

/-! ### the slots with what they own -/
abbrev Sg (P0 : AP) (H0 : Hp) (Ss : Nat → List Addr) : AP := fun a => (P0 a ∨ H0 a = none) ∧ ∀ j, a ∉ Ss j
structure SV (K : PySem.W.Frag) (H0 : Hp) (P0 : AP) (A : Lv) (ρ : En) (σ : L2.St) (H : Hp) (Ss : Nat → List Addr) : Prop where
  len : ρ.length = σ.length
  same : Same H0 H
  get : ∀ (i : Nat) (d : D), ρ[i]? = some (some d) → ∃ v, σ[i]? = some (some v) ∧ lv A i ≤ 99 ∧ Rp K H (Sg P0 H0 Ss) (lv A i) (Ss i) v d
  nd : ∀ i, (Ss i).Nodup
  dj : ∀ i j a, a ∈ Ss i → a ∈ Ss j → i = j
  fr : ∀ i a, a ∈ Ss i → H0 a = none
  own : ∀ i a, a ∈ Ss i → ∃ vs, H a = some (.lst vs)
section
variable {K : PySem.W.Frag} {H0 H H1 : Hp} {P0 : AP} {A B : Lv} {ρ : En} {σ : L2.St} {Ss : Nat → List Addr}
theorem SV.ev (h : SV K H0 P0 A ρ σ H Ss) : EV K A (Sg P0 H0 Ss) ρ σ H := ⟨h.len, fun i d e =>
  let ⟨v, a, b, c⟩ := h.get i d e; ⟨v, _, a, b, c⟩⟩
theorem SV.to (h : SV K H0 P0 A ρ σ H Ss) (s : Same H H1) : SV K H0 P0 A ρ σ H1 Ss := ⟨h.len, h.same.trans s, fun i d e =>
  let ⟨v, a, b, c⟩ := h.get i d e; ⟨v, a, b, c.same s⟩, h.nd, h.dj, h.fr, fun i a m => let ⟨vs, e⟩ := h.own i a m; ⟨vs, s _ _ e⟩⟩
theorem lv_set_self {A : Lv} {i n : Nat} (h : i < A.length) : lv (A.set i n) i = n := by
  unfold lv
  rw [List.getD_eq_getElem?_getD, List.getElem?_set_self h]
  rfl
/-- a new value in a slot -/
theorem SV.put {i n : Nat} {v : V} {d : D} {S : List Addr} (h : SV K H0 P0 A ρ σ H Ss) (s : Same H H1) (hi : i < A.length) (hn : n ≤ 99) (nd : S.Nodup) (fr : ∀ a ∈ S, H a = none)
    (r : Rp K H1 (fun a => (Sg P0 H0 Ss a ∨ H a = none) ∧ a ∉ S) n S v d) : SV K H0 P0 (A.set i n) (ρ.set i (some d)) (σ.set i (some v)) H1 (fun j => if j = i then S else Ss j) where
  len := by simp [h.len]
  same := h.same.trans s
  get := fun j d' e => by
    have hS : ∀ a, H a ≠ none → a ∉ S := fun a q z => q (fr a z)
    by_cases hj : j = i
    · subst hj
      have hl : j < ρ.length := by
        rcases Nat.lt_or_ge j ρ.length with z | z
        · exact z
        · rw [List.getElem?_eq_none (by simpa using z)] at e; cases e
      rw [List.getElem?_set_self hl] at e
      cases e
      rw [List.getElem?_set_self (by rw [← h.len]; exact hl), lv_set_self hi, if_pos rfl]
      refine ⟨v, rfl, hn, r.wP fun a ⟨p, q⟩ => ⟨?_, fun k => ?_⟩⟩
      · rcases p with p | p
        · exact p.1
        · exact .inr (h.same.free p)
      · dsimp only
        split
        · exact q
        · rcases p with p | p
          · exact p.2 k
          · intro z
            obtain ⟨w, e⟩ := h.own k a z
            rw [p] at e; cases e
    · rw [List.getElem?_set_ne (fun z => hj z.symm)] at e
      rw [List.getElem?_set_ne (fun z => hj z.symm), lv_set_ne _ _ (fun z => hj z.symm), if_neg hj]
      obtain ⟨w, a, b, c⟩ := h.get j d' e
      refine ⟨w, a, b, ((Rp.dom _ c).same s).wP fun a ⟨p, q⟩ => ⟨p.1, fun k => ?_⟩⟩
      dsimp only
      split
      · exact hS a q
      · exact p.2 k
  nd := fun j => by split; exact nd; exact h.nd j
  dj := fun j k a hj hk => by
    split at hj <;> split at hk
    · rename_i e1 e2; rw [e1, e2]
    · obtain ⟨w, e⟩ := h.own k a hk; rw [fr a hj] at e; cases e
    · obtain ⟨w, e⟩ := h.own j a hj; rw [fr a hk] at e; cases e
    · exact h.dj j k a hj hk
  fr := fun j a hj => by
    split at hj
    · exact h.same.free (fr a hj)
    · exact h.fr j a hj
  own := fun j a hj => by
    split at hj
    · exact Rp.own d r a hj
    · obtain ⟨w, e⟩ := h.own j a hj; exact ⟨w, s _ _ e⟩
def covers (A B : Lv) : Bool := A.length == B.length && (List.range B.length).all fun i => decide (lv B i ≤ lv A i)
theorem covers_le (h : covers A B = true) (i : Nat) : lv B i ≤ lv A i := by
  simp only [covers, Bool.and_eq_true, List.all_eq_true, List.mem_range, decide_eq_true_eq] at h
  rcases Nat.lt_or_ge i B.length with z | z
  · exact h.2 i z
  · unfold lv
    rw [List.getD_eq_getElem?_getD, List.getElem?_eq_none z]
    exact Nat.zero_le _
theorem covers_len (h : covers A B = true) : A.length = B.length := by
  simp only [covers, Bool.and_eq_true, beq_iff_eq] at h
  exact h.1
/-- lesser levels: some lists are shared then -/
theorem SV.weakI (h : SV K H0 P0 A ρ σ H Ss) (le : ∀ i, lv B i ≤ lv A i) : ∃ Ss', SV K H0 P0 B ρ σ H Ss' ∧ ∀ i a, a ∈ Ss' i → a ∈ Ss i := by
  have key : ∀ i, ∃ S', S'.Sublist (Ss i) ∧ ∀ d, ρ[i]? = some (some d) → ∃ v, σ[i]? = some (some v) ∧ lv A i ≤ 99 ∧ Rp K H (fun a => Sg P0 H0 Ss a ∨ a ∈ Ss i ∧ a ∉ S') (lv B i) S' v d := fun i => by
    by_cases hb : ∃ d, ρ[i]? = some (some d)
    · obtain ⟨d, e⟩ := hb
      obtain ⟨v, a, b, c⟩ := h.get i d e
      obtain ⟨S', s1, s2⟩ := Rp.weakN d c (le i) b (h.nd i)
      refine ⟨S', s1, fun d' e' => ?_⟩
      rw [e] at e'
      cases e'
      exact ⟨v, a, b, s2⟩
    · exact ⟨Ss i, List.Sublist.refl _, fun d e => absurd ⟨d, e⟩ hb⟩
  obtain ⟨Ss', hs⟩ := Classical.axiomOfChoice key
  have sub : ∀ i a, a ∈ Ss' i → a ∈ Ss i := fun i a m => (hs i).1.subset m
  refine ⟨Ss', ⟨h.len, h.same, fun i d e => ?_, fun i => (h.nd i).sublist (hs i).1, fun i j a hi hj => h.dj i j a (sub i a hi) (sub j a hj), fun i a hi => h.fr i a (sub i a hi), fun i a hi => h.own i a (sub i a hi)⟩, sub⟩
  obtain ⟨v, a, b, c⟩ := (hs i).2 d e
  refine ⟨v, a, Nat.le_trans (le i) b, c.wP fun a p => ?_⟩
  rcases p with p | ⟨p1, p2⟩
  · exact ⟨p.1, fun j z => p.2 j (sub j a z)⟩
  · refine ⟨.inr (h.fr i a p1), fun j z => ?_⟩
    by_cases hj : j = i
    · subst hj; exact p2 z
    · exact hj (h.dj j i a (sub j a z) p1)
theorem SV.weak (h : SV K H0 P0 A ρ σ H Ss) (le : ∀ i, lv B i ≤ lv A i) : ∃ Ss', SV K H0 P0 B ρ σ H Ss' := let ⟨Ss', q, _⟩ := h.weakI le; ⟨Ss', q⟩
/-- what is new is shared -/
theorem SV.newSg (h : SV K H0 P0 A ρ σ H Ss) {a : Addr} (e : H a = none) : Sg P0 H0 Ss a := ⟨.inr (h.same.free e), fun j z => by obtain ⟨w, q⟩ := h.own j a z; rw [e] at q; cases q⟩
/-- within a loop: what the slots own is taken from the ground -/
noncomputable def cutH (H : Hp) (Ss : Nat → List Addr) : Hp := open Classical in fun a => if ∃ j, a ∈ Ss j then none else H a
theorem cutH_in {a : Addr} {j : Nat} (h : a ∈ Ss j) : cutH H Ss a = none := by
  unfold cutH
  rw [if_pos ⟨j, h⟩]
theorem cutH_out {a : Addr} (h : ∀ j, a ∉ Ss j) : cutH H Ss a = H a := by
  unfold cutH
  rw [if_neg (fun ⟨j, z⟩ => h j z)]
theorem cutH_some {a : Addr} {o : HO} (h : cutH H Ss a = some o) : (∀ j, a ∉ Ss j) ∧ H a = some o := by
  unfold cutH at h
  split at h
  · cases h
  · rename_i z
    exact ⟨fun j q => z ⟨j, q⟩, h⟩
/-- the shared things of a loop -/
def cutP (H : Hp) (P0 : AP) (H0 : Hp) (Ss : Nat → List Addr) : AP := fun a => Sg P0 H0 Ss a ∧ H a ≠ none
theorem SV.zoom (h : SV K H0 P0 A ρ σ H Ss) : SV K (cutH H Ss) (cutP H P0 H0 Ss) A ρ σ H Ss where
  len := h.len
  same := fun b o e => (cutH_some e).2
  get := fun i d e => by
    obtain ⟨v, a, b, c⟩ := h.get i d e
    exact ⟨v, a, b, (Rp.dom _ c).wP fun a ⟨p, q⟩ => ⟨.inl ⟨p, q⟩, p.2⟩⟩
  nd := h.nd
  dj := h.dj
  fr := fun i a m => cutH_in m
  own := h.own
theorem cut_free (h : SV K H0 P0 A ρ σ H Ss) {a : Addr} (e : cutH H Ss a = none) : H0 a = none := by
  cases q : H0 a with
  | none => rfl
  | some o =>
    have n : ∀ j, a ∉ Ss j := fun j m => by rw [h.fr j a m] at q; cases q
    rw [cutH_out n, h.same _ _ q] at e
    cases e
theorem cut_same (h : SV K H0 P0 A ρ σ H Ss) (s : Same (cutH H Ss) H1) : Same H0 H1 := fun a o e => by
  have n : ∀ j, a ∉ Ss j := fun j m => by rw [h.fr j a m] at e; cases e
  exact s _ _ (by rw [cutH_out n]; exact h.same _ _ e)
theorem SV.unzoom {A' : Lv} {ρ' : En} {σ' : L2.St} {Ss' : Nat → List Addr} (h : SV K H0 P0 A ρ σ H Ss) (k : SV K (cutH H Ss) (cutP H P0 H0 Ss) A' ρ' σ' H1 Ss') : SV K H0 P0 A' ρ' σ' H1 Ss' where
  len := k.len
  same := cut_same h k.same
  get := fun i d e => by
    obtain ⟨v, a, b, c⟩ := k.get i d e
    refine ⟨v, a, b, c.wP fun a ⟨p, q⟩ => ⟨?_, q⟩⟩
    rcases p with p | p
    · exact p.1.1
    · exact .inr (cut_free h p)
  nd := k.nd
  dj := k.dj
  fr := fun i a m => cut_free h (k.fr i a m)
  own := k.own
/-- the list of a slot is changed -/
theorem SV.mut {i n : Nat} {a : Addr} {vs vs' : List V} {ds' : List D} {S2 : List Addr} {PX : AP} (h : SV K H0 P0 A ρ σ H Ss) (s : Same H H1) (hi : i < A.length) (hn : n ≤ 99) (h0 : n ≠ 0) (ha : H1 a = some (.lst vs)) (hm : a ∈ Ss i) (hσ : σ[i]? = some (some (.ref a)))
    (nd : S2.Nodup) (na : a ∉ S2) (hS : ∀ b ∈ S2, b ∈ Ss i ∨ H b = none) (r : RpL K H1 PX (dn n) S2 vs' ds') (hP : ∀ b, PX b → (Sg P0 H0 Ss b ∨ H b = none ∨ b ∈ Ss i) ∧ b ∉ S2 ∧ b ≠ a) :
    SV K H0 P0 (A.set i n) (ρ.set i (some (.lst ds'))) σ (upd H1 a (.lst vs')) (fun j => if j = i then a :: S2 else Ss j) := by
  have hne : ∀ b, b ∈ S2 → b ≠ a := fun b m e => na (e ▸ m)
  have kX : Keeps PX S2 H1 (upd H1 a (.lst vs')) := fun b o e q => by
    have : b ≠ a := by
      rcases q with q | q | q
      · exact hne b q
      · exact (hP b q).2.2
      · intro z; subst z; rw [ha] at e; cases e; exact q.elim
    rw [upd_ne this]
    exact e
  have r' := RpL.frame _ r kX (fun _ p => p)
  have own2 : ∀ b ∈ S2, ∃ w, (upd H1 a (.lst vs')) b = some (.lst w) := fun b m => RpL.own _ r' b m
  have out : ∀ b j, j ≠ i → b ∈ Ss j → b ∉ S2 ∧ b ≠ a := fun b j hj m => by
    refine ⟨fun z => ?_, fun z => ?_⟩
    · rcases hS b z with q | q
      · exact hj (h.dj j i b m q)
      · obtain ⟨w, e⟩ := h.own j b m; rw [q] at e; cases e
    · subst z; exact hj (h.dj j i b m hm)
  have sgE : ∀ b, Sg P0 H0 Ss b → H b ≠ none → b ∉ S2 ∧ b ≠ a := fun b p q => by
    refine ⟨fun z => ?_, fun z => by subst z; exact p.2 i hm⟩
    rcases hS b z with w | w
    · exact p.2 i w
    · exact q w
  refine ⟨by simp [h.len], fun b o e => ?_, fun j d e => ?_, fun j => ?_, fun j k b hj hk => ?_, fun j b hj => ?_, fun j b hj => ?_⟩
  · have : b ≠ a := fun z => by subst z; rw [h.fr i b hm] at e; cases e
    rw [upd_ne this]
    exact s _ _ (h.same _ _ e)
  · by_cases hj : j = i
    · subst hj
      have hl : j < ρ.length := by
        rcases Nat.lt_or_ge j ρ.length with z | z
        · exact z
        · rw [List.getElem?_eq_none (by simpa using z)] at e; cases e
      rw [List.getElem?_set_self hl] at e
      cases e
      rw [lv_set_self hi]
      simp only [if_pos]
      refine ⟨_, hσ, hn, .ow h0 hn upd_same (r'.wP fun b p => ?_)⟩
      obtain ⟨p1, p2, p3⟩ := hP b p
      refine ⟨?_, fun k z => ?_⟩
      · rcases p1 with p1 | p1 | p1
        · exact p1.1
        · exact .inr (h.same.free p1)
        · exact .inr (h.fr j b p1)
      · dsimp only at z
        split at z
        · rcases List.mem_cons.mp z with z | z
          · exact p3 z
          · exact p2 z
        · rename_i hk
          rcases p1 with p1 | p1 | p1
          · exact p1.2 k z
          · obtain ⟨w, e⟩ := h.own k b z; rw [p1] at e; cases e
          · exact hk (h.dj k j b z p1)
    · rw [List.getElem?_set_ne (fun z => hj z.symm)] at e
      rw [lv_set_ne _ _ (fun z => hj z.symm)]
      simp only [if_neg hj]
      obtain ⟨v, x, y, c⟩ := h.get j d e
      refine ⟨v, x, y, ?_⟩
      have c1 := (Rp.dom _ c).same s
      refine Rp.frame _ c1 (fun b o e q => ?_) (fun b ⟨p, q⟩ => ⟨p.1, fun k => ?_⟩)
      · have : b ≠ a := by
          rcases q with q | q | q
          · exact (out b j hj q).2
          · exact (sgE b q.1 q.2).2
          · intro z; subst z; rw [ha] at e; cases e; exact q.elim
        rw [upd_ne this]
        exact e
      · dsimp only
        split
        · exact fun z => (List.mem_cons.mp z).elim (sgE b p q).2 (sgE b p q).1
        · exact p.2 k
  · split
    · exact List.nodup_cons.mpr ⟨na, nd⟩
    · exact h.nd j
  · have tw : ∀ (k : Nat) (b : Addr), b ∈ a :: S2 → k ≠ i → b ∈ Ss k → False := fun k b m hk q => by
      rcases List.mem_cons.mp m with e | m
      · exact (out b k hk q).2 e
      · exact (out b k hk q).1 m
    split at hj <;> split at hk
    · rename_i e1 e2; rw [e1, e2]
    · rename_i e2; exact (tw k b hj e2 hk).elim
    · rename_i e1 e2; exact (tw j b hk e1 hj).elim
    · exact h.dj j k b hj hk
  · split at hj
    · rcases List.mem_cons.mp hj with e | m
      · subst e; exact h.fr i b hm
      · rcases hS b m with q | q
        · exact h.fr i b q
        · exact h.same.free q
    · exact h.fr j b hj
  · split at hj
    · rcases List.mem_cons.mp hj with e | m
      · subst e; exact ⟨_, upd_same⟩
      · exact own2 b m
    · rename_i hji
      obtain ⟨w, e⟩ := h.own j b hj
      exact ⟨w, by rw [upd_ne (out b j hji hj).2]; exact s _ _ e⟩
end
end TW

/-! statements: levels, the match, each form -/
namespace TW
open PySem PySem.Spec PyProof.Rows L2

section
variable {K : PySem.W.Frag} {H : Hp}
theorem RpL.dropL : ∀ (ds : List D) {P : AP} {n : Nat} {S : List Addr} {vs : List V}, RpL K H P n S vs ds → ∃ S', S'.Sublist S ∧ RpL K H P n S' vs.dropLast ds.dropLast
  | [], _, _, _, _, h => by cases h; exact ⟨[], .refl _, .nil⟩
  | [d], _, _, _, _, h => by
    cases h with
    | cons h1 h2 => cases h2; exact ⟨[], List.nil_sublist _, .nil⟩
  | d :: d' :: ds, _, _, _, _, h => by
    cases h with
    | cons h1 h2 =>
      obtain ⟨S', s, q⟩ := RpL.dropL (d' :: ds) h2
      obtain ⟨v', r, rfl⟩ := RpL.uncons h2
      exact ⟨_, (List.Sublist.refl _).append s, .cons h1 q⟩
theorem RpL.setK : ∀ (ds : List D) {P : AP} {n : Nat} {S S2 : List Addr} {vs : List V} {v : V} {d : D} (k : Nat), RpL K H P n S vs ds → Rp K H P n S2 v d → S.Nodup → S2.Nodup → (∀ b ∈ S, b ∉ S2) →
    ∃ S', RpL K H P n S' (vs.set k v) (ds.set k d) ∧ S'.Nodup ∧ ∀ b ∈ S', b ∈ S ∨ b ∈ S2
  | [], _, _, _, _, _, _, _, _, h, _, _, _, _ => by cases h; exact ⟨[], .nil, .nil, fun _ z => nomatch z⟩
  | d :: ds, _, _, _, S2, _, _, _, 0, h, r, nd, nd2, dj => by
    cases h with
    | cons h1 h2 =>
      rename_i Sa Sb _ _
      obtain ⟨n1, n2, n3⟩ := List.nodup_append.mp nd
      refine ⟨S2 ++ Sb, .cons r h2, List.nodup_append.mpr ⟨nd2, n2, fun a ha b hb e => ?_⟩, fun b z => ?_⟩
      · subst e; exact dj a (List.mem_append_right _ hb) ha
      · exact (List.mem_append.mp z).elim .inr fun z => .inl (List.mem_append_right _ z)
  | d :: ds, _, _, _, S2, _, _, _, k + 1, h, r, nd, nd2, dj => by
    cases h with
    | cons h1 h2 =>
      rename_i Sa Sb _ _
      obtain ⟨n1, n2, n3⟩ := List.nodup_append.mp nd
      obtain ⟨S', q, nd', m⟩ := RpL.setK ds k h2 r n2 nd2 fun b z => dj b (List.mem_append_right _ z)
      refine ⟨Sa ++ S', .cons h1 q, List.nodup_append.mpr ⟨n1, nd', fun a ha b hb e => ?_⟩, fun b z => ?_⟩
      · subst e
        rcases m a hb with z | z
        · exact n3 a ha a z rfl
        · exact dj a (List.mem_append_left _ ha) z
      · rcases List.mem_append.mp z with z | z
        · exact .inl (List.mem_append_left _ z)
        · exact (m b z).imp (List.mem_append_right _) id
end

/-! ### levels behind a statement -/
def minL (A B : Lv) : Lv := (List.range A.length).map fun i => min (lv A i) (lv B i)
theorem lv_minL (A B : Lv) (i : Nat) : lv (minL A B) i ≤ lv A i ∧ lv (minL A B) i ≤ lv B i := by
  unfold minL lv
  rw [List.getD_eq_getElem?_getD, List.getElem?_map]
  rcases Nat.lt_or_ge i A.length with z | z
  · rw [List.getElem?_range z]
    exact ⟨Nat.min_le_left _ _, Nat.min_le_right _ _⟩
  · rw [List.getElem?_eq_none (by simpa using z)]
    exact ⟨Nat.zero_le _, Nat.zero_le _⟩
mutual
def post (T : RTs) : Sm → Lv → Lv
  | .lv B, _ => B
  | .asg i e, A => A.set i (fr T e)
  | .asgT is _, A => zeroL A is
  | .par i j a b, A => (A.set i (fr T a)).set j (fr T b)
  | .ex _, A => A
  | .app i e, A => A.set i (min (lv A i) (up (fr T e)))
  | .pop i, A => A.set i (lv A i)
  | .set i _ e, A => A.set i (min (lv A i) (up (fr T e)))
  | .ite _ a b, A => minL (postB T a A) (postB T b A)
  | .wh B _ _, _ => B
  | .for B _ _ _, _ => B
  | .ret _, A => List.replicate A.length 99
  | .retN, A => List.replicate A.length 99
  | .brk, A => List.replicate A.length 99
  | .pass, A => A
def postB (T : RTs) : List Sm → Lv → Lv
  | [], A => A
  | s :: ss, A => postB T ss (post T s A)
end
def retOk (T : RTs) (rl : Nat) (A : Lv) (e : E) : Bool := (match e with | .var i => decide (rl ≤ lv A i) | _ => false) || (decide (rl ≤ fr T e) && okM T A e)
mutual
def okSt (T : RTs) (rl : Nat) : Lv → Sm → Lv → Bool
  | _, .lv B, A => covers A B
  | _, .asg i e, A => decide (i < A.length) && okM T A e
  | _, .asgT is e, A => is.all (fun i => decide (i < A.length)) && okM T A e
  | _, .par i j a b, A => decide (i < A.length) && decide (j < A.length) && decide (i ≠ j) && okM T A a && okM T A b
  | _, .ex _, _ => true
  | _, .app i e, A => decide (i < A.length) && decide (lv A i ≠ 0) && okM T A e
  | _, .pop i, A => decide (i < A.length) && decide (lv A i ≠ 0)
  | _, .set i _ e, A => decide (i < A.length) && decide (lv A i ≠ 0) && okM T A e
  | L, .ite _ a b, A => okB T rl L a A && okB T rl L b A
  | _, .wh B _ b, A => covers A B && okB T rl B b B && covers (postB T b B) B
  | _, .for B tg it b, A => covers A B && okI T A it && (tgIx tg).all (fun i => lv B i == 0 && decide (i < B.length)) && okB T rl B b B && covers (postB T b B) B
  | _, .ret e, A => retOk T rl A e
  | _, .retN, _ => true
  | L, .brk, A => covers A L
  | _, .pass, _ => true
def okB (T : RTs) (rl : Nat) : Lv → List Sm → Lv → Bool
  | _, [], _ => true
  | L, s :: ss, A => okSt T rl L s A && okB T rl L ss (post T s A)
end

/-! ### the match -/
def notLc : Expr → Bool
  | .ListComp _ _ _ _ => false
  | .SetComp _ _ _ _ => false
  | .DictComp _ _ _ _ _ => false
  | _ => true
theorem sw_plain {x : Expr} (h : notLc x = true) (t : Option Expr) (l : Nat) (env : Env) : swapsWith x t l env = pure false := by
  cases x <;> first | rfl | (simp [notLc] at h)
def isLv : Sm → Bool
  | .lv _ => true
  | _ => false
/-- the value of a tuple target: no display, or constants -/
def oneVal : Expr → Bool
  | .Tuple vs _ _ => vs.all (foldedForSure 8)
  | _ => true
theorem sws_one {x : Expr} (h : oneVal x = true) (ts : List Expr) (k : Nat) (p : Pos) (env : Env) : swappedStores [.Tuple ts k p] x env = pure none := by
  cases x <;> first | rfl | skip
  rename_i vs _ _
  simp only [oneVal] at h
  simp only [swappedStores]
  repeat' split
  all_goals first | rfl | (rename_i q; simp [h] at q) | (simp_all; done)
section
variable (N : List Str) (sc : Scope)
def fAsg (i : Nat) (f : Expr → Bool) (st : Stmt) : Bool := match st with
  | .Assign [.Name x _] y _ => N[i]? == some x && locB sc x && f y
  | _ => false
def fAsgT (is : List Nat) (f : Expr → Bool) (st : Stmt) : Bool := match st with
  | .Assign [.Tuple ts k p] y _ => mTg N sc (.t is) (.Tuple ts k p) && f y && notLc y && oneVal y
  | _ => false
def fPar (i j : Nat) (f g : Expr → Bool) (st : Stmt) : Bool := match st with
  | .Assign [.Tuple [.Name x px, .Name y py] _ _] (.Tuple [u, w] _ _) _ => N[i]? == some x && N[j]? == some y && x != y && sc.names.lookup x == some .local && sc.names.lookup y == some .local && px.line == py.line &&
      f u && g w && !(foldedForSure 8 u && foldedForSure 8 w) && !(constantsAlone 8 u && constantsAlone 8 w)
  | _ => false
def fEx (f : Expr → Bool) (st : Stmt) : Bool := match st with
  | .Expr y _ => f y && notLc y
  | _ => false
def fApp (i : Nat) (f : Expr → Bool) (st : Stmt) : Bool := match st with
  | .Expr (.Call (.Attribute (.Name x _) nm ap) [y] [] cp) _ => nm == "append" && N[i]? == some x && visB sc x && nameOk x && ap.endLine == cp.line && f y
  | _ => false
def fPop (i : Nat) (st : Stmt) : Bool := match st with
  | .Expr (.Call (.Attribute (.Name x _) nm ap) [] [] cp) _ => nm == "pop" && N[i]? == some x && visB sc x && nameOk x && ap.endLine == cp.line
  | _ => false
def fSet (i : Nat) (g f : Expr → Bool) (st : Stmt) : Bool := match st with
  | .Assign [.Subscript (.Name x _) kk _] y _ => N[i]? == some x && visB sc x && nameOk x && g kk && f y && notLc y
  | _ => false
def fRet (f : Expr → Bool) (st : Stmt) : Bool := match st with
  | .Return (some y) _ => f y
  | _ => false
def fRetN (st : Stmt) : Bool := match st with
  | .Return none _ => true
  | _ => false
def fBrk (st : Stmt) : Bool := match st with
  | .Break _ => true
  | _ => false
def fPass (st : Stmt) : Bool := match st with
  | .Pass _ => true
  | .Expr (.Constant (.str _) _ _) _ => true
  | _ => false
end
mutual
def mS (N : List Str) (c : Cn) (sc : Scope) : Sm → Stmt → Bool
  | .lv _, _ => false
  | .asg i e, st => fAsg N sc i (mE N c sc e) st
  | .asgT is e, st => fAsgT N sc is (mE N c sc e) st
  | .par i j a b, st => fPar N sc i j (mE N c sc a) (mE N c sc b) st
  | .ex e, st => fEx (mE N c sc e) st
  | .app i e, st => fApp N sc i (mE N c sc e) st
  | .pop i, st => fPop N sc i st
  | .set i k e, st => fSet N sc i (mE N c sc k) (mE N c sc e) st
  | .ite t a b, st => (match st with
    | .If x p q _ => mE N c sc t x && mBk N c sc a p && mBk N c sc b q
    | _ => false)
  | .wh _ t b, st => (match st with
    | .While x p [] _ => mE N c sc t x && mBk N c sc b p
    | _ => false)
  | .for _ tg it b, st => (match st with
    | .For t x p [] _ => mTg N sc tg t && mI N c sc it t x && mBk N c sc b p
    | _ => false)
  | .ret e, st => fRet (mE N c sc e) st
  | .retN, st => fRetN st
  | .brk, st => fBrk st
  | .pass, st => fPass st
def mBk (N : List Str) (c : Cn) (sc : Scope) : List Sm → List Stmt → Bool
  | [], sts => sts.isEmpty
  | s :: ss, sts => if isLv s then mBk N c sc ss sts else match sts with
    | [] => false
    | st :: r => mS N c sc s st && mBk N c sc ss r
end

/-! ### readings -/
def AnS (W : WX) (cl : Cl) (H0 : Hp) (r : R Ou) (k : Ou → Prop) : Prop := match r with
  | .ok o => k o
  | .exc n i => ∀ σ H' dd, Same H0 H' → H' dd = some (.xd [("at", .int i)]) → W (cl n) (some dd) σ H'
  | .bad => False
def kS (K : PySem.W.Frag) (H0 : Hp) (P0 : AP) (L : Lv) (rl : Nat) (B : Lv) (D : Ends) : Ou → Prop
  | .nx ρ' => ∀ σ' H' Ss', SV K H0 P0 B ρ' σ' H' Ss' → D.nx σ' H'
  | .rt d => Po K H0 P0 rl d D.rt
  | .bk ρ' => ∀ σ' H' Ss', SV K H0 P0 L ρ' σ' H' Ss' → D.bk σ' H'
def tSm (K : PySem.W.Frag) (T : RTs) (F : Fs) (W : WX) (cl : Cl) (fu : Nat) (L : Lv) (rl : Nat) (A : Lv) (s : Sm) : TS := fun D σ H => ∃ H0 P0 ρ Ss, SV K H0 P0 A ρ σ H Ss ∧ AnS W cl H0 (evS F fu s ρ) (kS K H0 P0 L rl (post T s A) D)
def tBk (K : PySem.W.Frag) (T : RTs) (F : Fs) (W : WX) (cl : Cl) (fu : Nat) (L : Lv) (rl : Nat) (A : Lv) (s : List Sm) : TS := fun D σ H => ∃ H0 P0 ρ Ss, SV K H0 P0 A ρ σ H Ss ∧ AnS W cl H0 (evB F fu s ρ) (kS K H0 P0 L rl (postB T s A) D)
section
variable {W : WX} {cl : Cl} {H0 H : Hp} {σ : L2.St} {α : Type}
theorem AnS.an {r : R α} {f : α → R Ou} {k : Ou → Prop} (h : AnS W cl H0 (r.bind f) k) (s : Same H0 H) : An W cl σ H r fun a => AnS W cl H0 (f a) k := by
  cases r with
  | ok a => exact h
  | exc n i => exact fun H' dd s' e => h σ H' dd (s.trans s') e
  | bad => exact h
theorem AnS.imp {r : R Ou} {k k' : Ou → Prop} (h : AnS W cl H0 r k) (w : ∀ o, r = .ok o → k o → k' o) : AnS W cl H0 r k' := by
  cases r with
  | ok o => exact w o rfl h
  | exc n i => exact h
  | bad => exact h
end
end TW

/-! statements: each form -/
namespace TW
open PySem PySem.Spec PyProof.Rows L2
section
variable {X : Cx} {T : RTs} {F : Fs} {W : WX} {cl : Cl} {k fu rl : Nat} {c : Cn} {A L : Lv}
def StS (X : Cx) (T : RTs) (F : Fs) (W : WX) (cl : Cl) (fu : Nat) (rl : Nat) (s : Sm) (st : Stmt) : Prop := ∀ L A, okSt T rl L s A = true → PS X st (tSm X.K T F W cl fu L rl A s)
def StB (X : Cx) (T : RTs) (F : Fs) (W : WX) (cl : Cl) (fu : Nat) (rl : Nat) (s : List Sm) (st : List Stmt) : Prop := ∀ L A, okB T rl L s A = true → PSs X st (tBk X.K T F W cl fu L rl A s)
theorem kS_nx {K : PySem.W.Frag} {H0 : Hp} {P0 : AP} {L B : Lv} {rl : Nat} {D : Ends} {W : WX} {cl : Cl} {ρ : En} (h : AnS W cl H0 (.ok (.nx ρ)) (kS K H0 P0 L rl B D)) : ∀ σ' H' Ss', SV K H0 P0 B ρ σ' H' Ss' → D.nx σ' H' := h
/-- the end of an assignment to a name -/
theorem asg_end {i : Nat} {e : E} (ok : okSt T rl L (.asg i e) A = true) {D : Ends} {σ : L2.St} {H : Hp} (h : tSm X.K T F W cl fu L rl A (.asg i e) D σ H) : tAsg (tE X.K T F W cl A e) (gName i) D σ H := by
  obtain ⟨H0, P0, ρ, Ss, sv, an⟩ := h
  simp only [okSt, Bool.and_eq_true, decide_eq_true_eq] at ok
  simp only [evS] at an
  exact ⟨ρ, _, sv.ev, (an.an sv.same).imp fun d _ q v H1 S s nd fr r => kS_nx q _ _ _ (sv.put s ok.1 (fr_le T e) nd fr r)⟩
theorem st_asg {i : Nat} {e : E} {x : Str} {y : Expr} {p pos : Pos} (xc : XC X k c T F cl) (g : GX X X.env.scope) (hi : X.N[i]? = some x) (hx : locB X.env.scope x = true) (hl : notLc y = true) (he : Snd X T F W cl e y) : StS X T F W cl fu rl (.asg i e) (.Assign [.Name x p] y pos) := fun L A ok => by
  have ok' := ok
  simp only [okSt, Bool.and_eq_true, decide_eq_true_eq] at ok'
  have l := g.loc x hx
  exact PS.imp (ps_set xc.nd hi l.1 (modeM he (A := A) ok'.2) (sw_plain hl _ _ _) l.2) fun D σ H h => asg_end ok h
theorem st_ex {e : E} {y : Expr} {pos : Pos} (hl : notLc y = true) (he : Snd X T F W cl e y) : StS X T F W cl fu rl (.ex e) (.Expr y pos) := fun L A ok => by
  refine PS.imp (ps_expr (modeA he) (sw_plain hl _ _ _)) fun D σ H ⟨H0, P0, ρ, Ss, sv, an⟩ => ?_
  simp only [evS] at an
  exact ⟨ρ, sv.ev.free, (an.an sv.same).imp fun d _ q v H1 s r => kS_nx q _ _ _ (sv.to s)⟩
theorem lk_ok {ρ : En} {i : Nat} {d : D} (h : lk ρ i = .ok d) : ρ[i]? = some (some d) := by
  unfold lk at h
  split at h
  · cases h; assumption
  · cases h
theorem lk_noexc (ρ : En) (i n : Nat) (j : Int) : lk ρ i ≠ .exc n j := by
  unfold lk; split <;> simp
theorem lkL_ok {ρ : En} {i : Nat} {xs : List D} (h : (lk ρ i).bind asL = .ok xs) : ρ[i]? = some (some (.lst xs)) := by
  obtain ⟨d, e1, e2⟩ := bind_ok' h
  cases d <;> simp only [asL, reduceCtorEq] at e2
  cases e2
  exact lk_ok e1
theorem lkL_noexc (ρ : En) (i n : Nat) (j : Int) : (lk ρ i).bind asL ≠ .exc n j := by
  cases h : lk ρ i with
  | bad => simp [R.bind]
  | exc n j => exact absurd h (lk_noexc _ _ _ _)
  | ok d => cases d <;> simp [R.bind, asL]
/-- a slot's own list -/
theorem SV.lst {K : PySem.W.Frag} {H0 H : Hp} {P0 : AP} {ρ : En} {σ : L2.St} {Ss : Nat → List Addr} {i : Nat} {xs : List D} (h : SV K H0 P0 A ρ σ H Ss) (e : ρ[i]? = some (some (.lst xs))) (hi : lv A i ≠ 0) :
    ∃ a vs S, σ[i]? = some (some (.ref a)) ∧ H a = some (.lst vs) ∧ Ss i = a :: S ∧ lv A i ≤ 99 ∧ RpL K H (Sg P0 H0 Ss) (dn (lv A i)) S vs xs := by
  obtain ⟨v, hv, hn, r⟩ := h.get i _ e
  generalize hS : Ss i = Si at r
  generalize hn' : lv A i = n at r hn hi
  cases r with
  | sh ha hp hl => exact absurd rfl hi
  | ow h0 h1 ha hl => exact ⟨_, _, _, hv, ha, rfl, hn, hl⟩
/-- a new item within a list -/
theorem mut_item {K : PySem.W.Frag} {H0 H H1 : Hp} {P0 : AP} {ρ : En} {σ : L2.St} {Ss : Nat → List Addr} {i m : Nat} {xs : List D} {a : Addr} {vs : List V} {S Sb : List Addr} {v : V} {d : D} (sv : SV K H0 P0 A ρ σ H Ss) (hSi : Ss i = a :: S) (hn : lv A i ≤ 99)
    (hl : RpL K H (Sg P0 H0 Ss) (dn (lv A i)) S vs xs) (s : Same H H1) (hm : m ≤ 99) (nd : Sb.Nodup) (fr : ∀ b ∈ Sb, H b = none) (r : Rp K H1 (fun b => (Sg P0 H0 Ss b ∨ H b = none) ∧ b ∉ Sb) m Sb v d) :
    ∃ PX S1 S2, RpL K H1 PX (dn (min (lv A i) (up m))) S1 vs xs ∧ Rp K H1 PX (dn (min (lv A i) (up m))) S2 v d ∧ S1.Nodup ∧ S2.Nodup ∧ (∀ b ∈ S1, b ∈ S) ∧ (∀ b ∈ S2, H b = none) ∧ (∀ b ∈ S1, b ∉ S2) ∧
      a ∉ S1 ∧ a ∉ S2 ∧ ∀ b, PX b → (Sg P0 H0 Ss b ∨ H b = none ∨ b ∈ Ss i) ∧ b ∉ S1 ∧ b ∉ S2 ∧ b ≠ a := by
  have ndS : (a :: S).Nodup := hSi ▸ sv.nd i
  have nd' := List.nodup_cons.mp ndS
  have own : ∀ b ∈ a :: S, H b ≠ none := fun b hb => by
    obtain ⟨w, e⟩ := sv.own i b (by rw [hSi]; exact hb)
    rw [e]; simp
  have in_i : ∀ b ∈ a :: S, b ∈ Ss i := fun b hb => by rw [hSi]; exact hb
  have d1 : dn (min (lv A i) (up m)) ≤ dn (lv A i) := dn_mono (Nat.min_le_left _ _) hn
  have d2 : dn (min (lv A i) (up m)) ≤ m := Nat.le_trans (dn_mono (Nat.min_le_right _ _) (up_le hm)) (dn_up hm)
  obtain ⟨S1, b1, q1⟩ := RpL.weakN _ ((RpL.dom _ hl).same s) d1 (Nat.le_trans (dn_le _) hn) nd'.2
  obtain ⟨S2, b2, q2⟩ := Rp.weakN _ r d2 hm nd
  have sub1 : ∀ b ∈ S1, b ∈ S := fun b z => b1.subset z
  have sub2 : ∀ b ∈ S2, H b = none := fun b z => fr b (b2.subset z)
  have out2 : ∀ b, H b ≠ none → b ∉ S2 := fun b z w => z (sub2 b w)
  have sgo : ∀ b, Sg P0 H0 Ss b → b ∉ a :: S := fun b p z => p.2 i (in_i b z)
  refine ⟨fun b => (Sg P0 H0 Ss b ∨ H b = none ∨ b ∈ Ss i) ∧ b ∉ S1 ∧ b ∉ S2 ∧ b ≠ a, S1, S2, q1.wP fun b p => ?_, q2.wP fun b p => ?_, nd'.2.sublist b1, nd.sublist b2, sub1, sub2, fun b z => out2 b (own b (List.mem_cons_of_mem _ (sub1 b z))), fun z => nd'.1 (sub1 a z), out2 a (own a List.mem_cons_self), fun b p => p⟩
  · rcases p with ⟨p1, p2⟩ | ⟨p1, p2⟩
    · exact ⟨.inl p1, fun z => sgo b p1 (List.mem_cons_of_mem _ (sub1 b z)), out2 b p2, fun z => sgo b p1 (z ▸ List.mem_cons_self)⟩
    · exact ⟨.inr (.inr (in_i b (List.mem_cons_of_mem _ p1))), p2, out2 b (own b (List.mem_cons_of_mem _ p1)), fun z => nd'.1 (z ▸ p1)⟩
  · rcases p with ⟨p1 | p1, p2⟩ | ⟨p1, p2⟩
    · exact ⟨.inl p1, fun z => sgo b p1 (List.mem_cons_of_mem _ (sub1 b z)), fun z => p2 (b2.subset z), fun z => sgo b p1 (z ▸ List.mem_cons_self)⟩
    · exact ⟨.inr (.inl p1), fun z => own b (List.mem_cons_of_mem _ (sub1 b z)) p1, fun z => p2 (b2.subset z), fun z => own a List.mem_cons_self (z ▸ p1)⟩
    · exact ⟨.inr (.inl (fr b p1)), fun z => own b (List.mem_cons_of_mem _ (sub1 b z)) (fr b p1), p2, fun z => own a List.mem_cons_self (z ▸ fr b p1)⟩
theorem min_up_ne {a b : Nat} (h : a ≠ 0) : min a (up b) ≠ 0 := by
  have := up_ne b
  omega
theorem st_app {i : Nat} {e : E} {x : Str} {y : Expr} {p ap cp pos : Pos} (g : GX X X.env.scope) (hi : X.N[i]? = some x) (hv : visB X.env.scope x = true) (hn : nameOk x = true) (hline : (ap.endLine == cp.line) = true) (py : plainX y = true) (he : Snd X T F W cl e y) :
    StS X T F W cl fu rl (.app i e) (.Expr (.Call (.Attribute (.Name x p) "append" ap) [y] [] cp) pos) := fun L A ok => by
  simp only [okSt, Bool.and_eq_true, decide_eq_true_eq] at ok
  obtain ⟨⟨ok1, ok2⟩, ok3⟩ := ok
  have st := star_cons py [] X.env
  simp only [nameOk, Bool.and_eq_true, bne_iff_ne, ne_eq] at hn
  have pv : PE X (.Name x p) (tVar i) := pe_var hi (g.vis _ hv) (by simpa using hn.1) (by simpa using hn.2)
  refine PS.imp (ps_expr (pe_bm PySem.F.plainAttrs_list PySem.F.slot_list_append PySem.F.type_list_append mt_append pv (pa_cons (modeM he (A := A) ok3) pa_nil st) rfl (by rw [st]; rfl) hline st rfl)) fun D σ H ⟨H0, P0, ρ, Ss, sv, an⟩ => ?_
  simp only [evS] at an
  have an := AnS.an (σ := σ) (H := H) an sv.same
  cases el : (lk ρ i).bind asL with
  | bad => rw [el] at an; exact an.elim
  | exc n j => exact absurd el (lkL_noexc _ _ _ _)
  | ok xs =>
    rw [el] at an
    obtain ⟨a, vs, S, hσ, ha, hS, hn99, hl⟩ := sv.lst (lkL_ok el) ok2
    refine ⟨.ref a, hσ, .inl ⟨rfl, vs, SqL.of ha⟩, ρ, _, sv.ev, ?_⟩
    have an : AnS W cl H0 ((evE F e ρ).bind fun d => if xs.length < LIM then .ok (.nx (ρ.set i (some (.lst (xs ++ [d]))))) else .bad) (kS X.K H0 P0 L rl (post T (.app i e) A) D) := an
    refine (AnS.an (σ := σ) (H := H) an sv.same).imp fun d _ an => ?_
    intro v H1 Sb s nd f5 r
    by_cases hlen : xs.length < LIM
    · rw [if_pos hlen] at an
      refine ⟨a, vs, v, rfl, rfl, s _ _ ha, by rw [sizeLine_LIM, hl.len]; exact hlen, ?_⟩
      obtain ⟨PX, S1, S2, q1, q2, n1, n2, u1, u2, dj, na1, na2, hP⟩ := mut_item sv hS hn99 hl s (fr_le T e) nd f5 r
      have q3 : RpL X.K H1 PX (dn (min (lv A i) (up (fr T e)))) (S2 ++ []) [v] [d] := .cons q2 .nil
      rw [List.append_nil] at q3
      refine kS_nx an _ _ _ (sv.mut s ok1 (by omega) (min_up_ne ok2) (s _ _ ha) (by rw [hS]; exact List.mem_cons_self) hσ (List.nodup_append.mpr ⟨n1, n2, fun b hb b' hb' e => dj b hb (e ▸ hb')⟩) (fun z => (List.mem_append.mp z).elim na1 na2)
        (fun b z => (List.mem_append.mp z).elim (fun z => .inl (by rw [hS]; exact List.mem_cons_of_mem _ (u1 b z))) fun z => .inr (u2 b z)) (RpL.append q1 q3) fun b p => ?_)
      obtain ⟨p1, p2, p3, p4⟩ := hP b p
      exact ⟨p1, fun z => (List.mem_append.mp z).elim p2 p3, p4⟩
    · rw [if_neg hlen] at an
      exact an.elim
theorem name_pe {i : Nat} {x : Str} {p : Pos} (g : GX X X.env.scope) (hi : X.N[i]? = some x) (hv : visB X.env.scope x = true) (hn : nameOk x = true) : PE X (.Name x p) (tVar i) := by
  simp only [nameOk, Bool.and_eq_true, bne_iff_ne, ne_eq] at hn
  exact pe_var hi (g.vis _ hv) (by simpa using hn.1) (by simpa using hn.2)
theorem st_pop {i : Nat} {x : Str} {p ap cp pos : Pos} (g : GX X X.env.scope) (hi : X.N[i]? = some x) (hv : visB X.env.scope x = true) (hn : nameOk x = true) (hline : (ap.endLine == cp.line) = true) :
    StS X T F W cl fu rl (.pop i) (.Expr (.Call (.Attribute (.Name x p) "pop" ap) [] [] cp) pos) := fun L A ok => by
  simp only [okSt, Bool.and_eq_true, decide_eq_true_eq] at ok
  obtain ⟨ok1, ok2⟩ := ok
  refine PS.imp (ps_expr (pe_bm0 PySem.F.plainAttrs_list PySem.F.slot_list_pop PySem.F.type_list_pop mt_pop (name_pe g hi hv hn) rfl hline)) fun D σ H ⟨H0, P0, ρ, Ss, sv, an⟩ => ?_
  simp only [evS] at an
  have an := AnS.an (σ := σ) (H := H) an sv.same
  cases el : (lk ρ i).bind asL with
  | bad => rw [el] at an; exact an.elim
  | exc n j => exact absurd el (lkL_noexc _ _ _ _)
  | ok xs =>
    rw [el] at an
    obtain ⟨a, vs, S, hσ, ha, hS, hn99, hl⟩ := sv.lst (lkL_ok el) ok2
    have an : AnS W cl H0 (if xs.isEmpty then .bad else .ok (.nx (ρ.set i (some (.lst xs.dropLast))))) (kS X.K H0 P0 L rl (post T (.pop i) A) D) := an
    by_cases hx : xs.isEmpty = true
    · rw [if_pos hx] at an
      exact an.elim
    · rw [if_neg hx] at an
      have hv0 : vs.length - 1 < vs.length := by
        have e := hl.len
        have : xs.length ≠ 0 := fun z => hx (by simpa using z)
        omega
      refine ⟨.ref a, hσ, .inl ⟨rfl, vs, SqL.of ha⟩, a, vs, vs[vs.length - 1], rfl, rfl, ha, List.getElem?_eq_getElem hv0, ?_⟩
      obtain ⟨S', s', q⟩ := RpL.dropL _ hl
      have ndS : (a :: S).Nodup := hS ▸ sv.nd i
      have nd' := List.nodup_cons.mp ndS
      exact kS_nx an _ _ _ (sv.mut (Same.refl H) ok1 hn99 ok2 ha (by rw [hS]; exact List.mem_cons_self) hσ (nd'.2.sublist s') (fun z => nd'.1 (s'.subset z)) (fun b z => .inl (by rw [hS]; exact List.mem_cons_of_mem _ (s'.subset z))) q fun b p =>
        ⟨.inl p, fun z => p.2 i (by rw [hS]; exact List.mem_cons_of_mem _ (s'.subset z)), fun z => p.2 i (by rw [hS, z]; exact List.mem_cons_self)⟩)
theorem kS_weak {K : PySem.W.Frag} {H0 : Hp} {P0 : AP} {L B B' : Lv} {rl : Nat} {D : Ends} {o : Ou} (le : ∀ i, lv B i ≤ lv B' i) (h : kS K H0 P0 L rl B D o) : kS K H0 P0 L rl B' D o := by
  cases o with
  | nx ρ => exact fun σ' H' Ss' sv => let ⟨Ss2, sv2⟩ := sv.weak le; h _ _ _ sv2
  | rt d => exact h
  | bk ρ => exact h
theorem st_ite {t : E} {a b : List Sm} {x : Expr} {p q : List Stmt} {pos : Pos} (ht : SndT X F W cl t x) (ha : StB X T F W cl fu rl a p) (hb : StB X T F W cl fu rl b q) : StS X T F W cl fu rl (.ite t a b) (.If x p q pos) := fun L A ok => by
  simp only [okSt, Bool.and_eq_true] at ok
  refine PS.imp (ps_if ht (ha L A ok.1) (hb L A ok.2)) fun D σ H ⟨H0, P0, ρ, Ss, sv, an⟩ => ?_
  simp only [evS] at an
  have an2 : AnS W cl H0 (((evE F t ρ).bind tru).bind fun k => if k = true then evB F fu a ρ else evB F fu b ρ) (kS X.K H0 P0 L rl (post T (.ite t a b) A) D) := by
    cases q : evE F t ρ <;> (rw [q] at an; exact an)
  refine ⟨ρ, sv.ev.free, (AnS.an an2 sv.same).imp fun k _ an H1 s => ?_⟩
  simp only [post] at an
  cases k with
  | true =>
    exact iteT ⟨H0, P0, ρ, Ss, sv.to s, AnS.imp an fun o _ z => kS_weak (fun i => (lv_minL _ _ i).1) z⟩
  | false =>
    exact iteF ⟨H0, P0, ρ, Ss, sv.to s, AnS.imp an fun o _ z => kS_weak (fun i => (lv_minL _ _ i).2) z⟩
theorem st_ret {e : E} {y : Expr} {pos : Pos} (g : GX X X.env.scope) (hm : mE X.N c X.env.scope e y = true) (he : Snd X T F W cl e y) : StS X T F W cl fu rl (.ret e) (.Return (some y) pos) := fun L A ok => by
  simp only [okSt] at ok
  cases q : (decide (rl ≤ fr T e) && okM T A e) with
  | true =>
    simp only [Bool.and_eq_true, decide_eq_true_eq] at q
    refine PS.imp (ps_ret (modeM he (A := A) q.2)) fun D σ H ⟨H0, P0, ρ, Ss, sv, an⟩ => ?_
    simp only [evS] at an
    refine ⟨ρ, _, sv.ev, (AnS.an an sv.same).imp fun d _ an => ?_⟩
    have an : Po X.K H0 P0 rl d D.rt := an
    intro v H1 S s nd f5 r
    refine an.use q.1 (fr_le T e) (sv.same.trans s) nd (fun a z => sv.same.free (f5 a z)) (r.wP fun a ⟨p1, p2⟩ => ⟨p1.elim (fun z => z.1) fun z => .inr (sv.same.free z), p2⟩)
  | false =>
    simp only [retOk, q, Bool.or_false] at ok
    cases e <;> simp only [reduceCtorEq, Bool.false_eq_true] at ok
    rename_i i
    have ok := of_decide_eq_true ok
    refine PS.imp (ps_ret (pe_vr (N := X.N) g hm)) fun D σ H ⟨H0, P0, ρ, Ss, sv, an⟩ => ?_
    simp only [evS, evE] at an
    cases el : lk ρ i with
    | bad => rw [el] at an; exact an.elim
    | exc n j => exact absurd el (lk_noexc _ _ _ _)
    | ok d =>
      rw [el] at an
      have an : Po X.K H0 P0 rl d D.rt := an
      obtain ⟨v, hσ, hn, r⟩ := sv.get i d (lk_ok el)
      exact ⟨v, hσ, an.use ok hn sv.same (sv.nd i) (sv.fr i) (r.wP fun a ⟨p1, p2⟩ => ⟨p1, p2 i⟩)⟩
theorem st_retN {pos : Pos} : StS X T F W cl fu rl .retN (.Return none pos) := fun L A ok =>
  PS.imp ps_retN fun D σ H ⟨H0, P0, ρ, Ss, sv, an⟩ => by
    have an : Po X.K H0 P0 rl .non D.rt := an
    exact an .non H [] sv.same .nil (fun _ z => nomatch z) .non
theorem st_brk {pos : Pos} : StS X T F W cl fu rl .brk (.Break pos) := fun L A ok =>
  PS.imp ps_break fun D σ H ⟨H0, P0, ρ, Ss, sv, an⟩ => by
    simp only [okSt] at ok
    have an : ∀ σ' H' Ss', SV X.K H0 P0 L ρ σ' H' Ss' → D.bk σ' H' := an
    obtain ⟨Ss', sv'⟩ := sv.weak (covers_le ok)
    exact an _ _ _ sv'
theorem st_pass {pos : Pos} : StS X T F W cl fu rl .pass (.Pass pos) := fun L A ok =>
  PS.imp ps_pass fun D σ H ⟨H0, P0, ρ, Ss, sv, an⟩ => kS_nx (B := A) an _ _ _ sv
theorem st_doc {x : Str} {j : Nat} {p pos : Pos} : StS X T F W cl fu rl .pass (.Expr (.Constant (.str x) j p) pos) := fun L A ok =>
  PS.imp ps_doc fun D σ H ⟨H0, P0, ρ, Ss, sv, an⟩ => kS_nx (B := A) an _ _ _ sv
theorem b_nil : StB X T F W cl fu rl [] [] := fun L A ok =>
  PSs.imp pss_nil fun D σ H ⟨H0, P0, ρ, Ss, sv, an⟩ => by
    simp only [evB] at an
    exact kS_nx (B := A) an _ _ _ sv
theorem b_lv {B : Lv} {ss : List Sm} {sts : List Stmt} (h : StB X T F W cl fu rl ss sts) : StB X T F W cl fu rl (.lv B :: ss) sts := fun L A ok => by
  simp only [okB, okSt, Bool.and_eq_true, post] at ok
  refine PSs.imp (h L B ok.2) fun D σ H ⟨H0, P0, ρ, Ss, sv, an⟩ => ?_
  simp only [evB, evS, postB, post] at an
  obtain ⟨Ss', sv'⟩ := sv.weak (covers_le ok.1)
  exact ⟨H0, P0, ρ, Ss', sv', an⟩
theorem b_cons {s : Sm} {ss : List Sm} {st : Stmt} {sts : List Stmt} (h1 : StS X T F W cl fu rl s st) (h2 : StB X T F W cl fu rl ss sts) : StB X T F W cl fu rl (s :: ss) (st :: sts) := fun L A ok => by
  simp only [okB, Bool.and_eq_true] at ok
  refine PSs.imp (pss_cons (h1 L A ok.1) (h2 L _ ok.2)) fun D σ H ⟨H0, P0, ρ, Ss, sv, an⟩ => ⟨H0, P0, ρ, Ss, sv, ?_⟩
  simp only [evB, postB] at an
  cases q : evS F fu s ρ with
  | bad => rw [q] at an; exact an.elim
  | exc n i => rw [q] at an; exact an
  | ok o =>
    rw [q] at an
    cases o with
    | nx ρ' => exact fun σ' H' Ss' sv' => ⟨H0, P0, ρ', Ss', sv', an⟩
    | rt d => exact an
    | bk ρ' => exact an
end
end TW

namespace TW
open PySem PySem.Spec PyProof.Rows L2
section
variable {X : Cx} {T : RTs} {F : Fs} {W : WX} {cl : Cl} {k fu rl : Nat} {c : Cn} {A L : Lv}
theorem st_set {i : Nat} {kk e : E} {x : Str} {y z : Expr} {p sp pos : Pos} (g : GX X X.env.scope) (hi : X.N[i]? = some x) (hv : visB X.env.scope x = true) (hn : nameOk x = true) (hl0 : notLc y = true) (pz : plainX z = true) (he : Snd X T F W cl e y) (hk : Snd X T F W cl kk z) :
    StS X T F W cl fu rl (.set i kk e) (.Assign [.Subscript (.Name x p) z sp] y pos) := fun L A ok => by
  simp only [okSt, Bool.and_eq_true, decide_eq_true_eq] at ok
  obtain ⟨⟨ok1, ok2⟩, ok3⟩ := ok
  refine PS.imp (ps_asg (modeM he (A := A) ok3) (pg_sub (name_pe g hi hv hn) (modeA hk) set_list (by intro v; cases z <;> first | rfl | (simp [plainX] at pz))) (by rw [swapsWithSole]; exact sw_plain hl0 _ _ _) (by cases y <;> rfl) rfl) fun D σ H ⟨H0, P0, ρ, Ss, sv, an⟩ => ?_
  simp only [evS] at an
  refine ⟨ρ, _, sv.ev, (AnS.an (σ := σ) (H := H) an sv.same).imp fun d _ an => ?_⟩
  intro v H1 Sb s nd f5 r
  have an := AnS.an (σ := σ) (H := H) an sv.same
  cases el : (lk ρ i).bind asL with
  | bad => rw [el] at an; exact an.elim
  | exc n j => exact absurd el (lkL_noexc _ _ _ _)
  | ok xs =>
    rw [el] at an
    obtain ⟨a, vs, S, hσ, ha, hS, hn99, hl⟩ := sv.lst (lkL_ok el) ok2
    refine ⟨.ref a, hσ, ρ, (sv.to s).ev.free, ?_⟩
    have an : AnS W cl H0 ((evE F kk ρ).bind fun j => (setD xs j d).bind fun ys => .ok (.nx (ρ.set i (some (.lst ys))))) (kS X.K H0 P0 L rl (post T (.set i kk e) A) D) := an
    refine (AnS.an (σ := σ) (H := H1) an (sv.same.trans s)).imp fun j _ an => ?_
    intro u H2 s2 r2
    have an := AnS.an (σ := σ) (H := H) an sv.same
    cases es : setD xs j d with
    | bad => rw [es] at an; exact an.elim
    | exc n j' =>
      exfalso
      unfold setD at es
      split at es
      · exact ofO_noexc _ _ _ es
      · cases es
    | ok ys =>
      rw [es] at an
      unfold setD at es
      cases j with
      | int jn =>
        have es : R.ofO ((ixN xs.length jn).map fun m => xs.set m d) = .ok ys := es
        cases em : ixN xs.length jn with
        | none => rw [em] at es; cases es
        | some m =>
          rw [em] at es
          cases es
          rw [Ra.int r2]
          have ha2 := s2 _ _ (s _ _ ha)
          refine ⟨a, vs, jn, m, rfl, rfl, ha2, by rw [hl.len]; exact em, ?_⟩
          obtain ⟨PX, S1, S2, q1, q2, n1, n2, u1, u2, dj, na1, na2, hP⟩ := mut_item sv hS hn99 hl s (fr_le T e) nd f5 r
          obtain ⟨S', q, ndq, mq⟩ := RpL.setK _ m q1 q2 n1 n2 dj
          have mem : ∀ b ∈ S', b ∈ S1 ∨ b ∈ S2 := mq
          have an : AnS W cl H0 (.ok (.nx (ρ.set i (some (.lst (xs.set m d)))))) (kS X.K H0 P0 L rl (post T (.set i kk e) A) D) := an
          refine kS_nx an _ _ _ (sv.mut (s.trans s2) ok1 (by omega) (min_up_ne ok2) ha2 (by rw [hS]; exact List.mem_cons_self) hσ ndq (fun z => (mem a z).elim na1 na2)
            (fun b z => (mem b z).elim (fun z => .inl (by rw [hS]; exact List.mem_cons_of_mem _ (u1 b z))) fun z => .inr (u2 b z)) (q.same s2) fun b p => ?_)
          obtain ⟨p1, p2, p3, p4⟩ := hP b p
          exact ⟨p1, fun z => (mem b z).elim p2 p3, p4⟩
      | _ => cases es
end
end TW

/-! loops, targets of tuples; all statements -/
namespace TW
open PySem PySem.Spec PyProof.Rows L2
section
variable {X : Cx} {T : RTs} {F : Fs} {W : WX} {cl : Cl} {k fu rl : Nat} {c : Cn} {A L : Lv}
theorem SV.set0 {K : PySem.W.Frag} {H0 H : Hp} {P0 : AP} {B : Lv} {ρ : En} {σ : L2.St} {Ss : Nat → List Addr} {i : Nat} {v : V} {d : D} (h : SV K H0 P0 B ρ σ H Ss) (hi : lv B i = 0) (hl : i < B.length) (r : Rp K H (Sg P0 H0 Ss) 0 [] v d) :
    ∃ Ss', SV K H0 P0 B (ρ.set i (some d)) (σ.set i (some v)) H Ss' ∧ ∀ j a, a ∈ Ss' j → a ∈ Ss j := by
  have p := h.put (Same.refl H) hl (Nat.zero_le _) .nil (fun _ z => nomatch z) (r.wP fun a z => ⟨.inl z, by simp⟩)
  obtain ⟨Ss', q, m⟩ := p.weakI (B := B) fun j => by
    by_cases hj : i = j
    · subst hj; rw [hi]; exact Nat.zero_le _
    · rw [lv_set_ne _ _ hj]; exact Nat.le_refl _
  refine ⟨Ss', q, fun j a z => ?_⟩
  have := m j a z
  split at this
  · cases this
  · exact this
theorem svL {K : PySem.W.Frag} {H0 H : Hp} {P0 : AP} {B : Lv} : ∀ {is : List Nat} {ds : List D} {vs : List V} {ρ ρ' : En} {σ : L2.St} {Ss : Nat → List Addr} {Q : L2.St → Hp → Prop}, SV K H0 P0 B ρ σ H Ss → (∀ i ∈ is, lv B i = 0 ∧ i < B.length) → RpL K H (Sg P0 H0 Ss) 0 [] vs ds → setL ρ is ds = .ok ρ' →
    (∀ σ' Ss', SV K H0 P0 B ρ' σ' H Ss' → Q σ' H) → gL is vs σ H Q
  | [], [], vs, ρ, ρ', σ, Ss, Q, sv, _, r, e, q => by
    rw [RpL.unnil r]
    simp only [setL] at e
    cases e
    exact ⟨rfl, q σ Ss sv⟩
  | i :: is, d :: ds, vs, ρ, ρ', σ, Ss, Q, sv, z, r, e, q => by
    obtain ⟨v, vs, rfl⟩ := RpL.uncons r
    obtain ⟨r1, r2⟩ := RpL.cons0 r
    refine ⟨v, vs, rfl, ?_⟩
    show gL is vs (σ.set i (some v)) H Q
    obtain ⟨Ss', sv', m⟩ := sv.set0 (z i (by simp)).1 (z i (by simp)).2 r1
    exact svL sv' (fun j hj => z j (by simp [hj])) (r2.wP fun a p => ⟨p.1, fun j w => p.2 j (m j a w)⟩) e q
  | [], _ :: _, _, _, _, _, _, _, _, _, _, e, _ => by simp [setL] at e
  | _ :: _, [], _, _, _, _, _, _, _, _, _, e, _ => by simp [setL] at e
theorem setL_len : ∀ {is : List Nat} {ds : List D} {ρ ρ' : En}, setL ρ is ds = .ok ρ' → ds.length = is.length
  | [], ds, ρ, ρ', e => by cases ds <;> simp [setL] at e ⊢
  | i :: is, ds, ρ, ρ', e => by
    cases ds <;> simp only [setL, reduceCtorEq] at e
    simp [setL_len e]
theorem svT {K : PySem.W.Frag} {H0 H : Hp} {P0 : AP} {B : Lv} {tg : Tg} {d : D} {v : V} {ρ ρ' : En} {σ : L2.St} {Ss : Nat → List Addr} {Q : L2.St → Hp → Prop} (sv : SV K H0 P0 B ρ σ H Ss) (z : ∀ i ∈ tgIx tg, lv B i = 0 ∧ i < B.length) (r : Rp K H (Sg P0 H0 Ss) 0 [] v d) (e : bindT tg d ρ = .ok ρ')
    (q : ∀ σ' Ss', SV K H0 P0 B ρ' σ' H Ss' → Q σ' H) : gT K tg v σ H Q := by
  cases tg with
  | v i =>
    simp only [bindT] at e
    cases e
    obtain ⟨Ss', sv', _⟩ := sv.set0 (z i (by simp [tgIx])).1 (z i (by simp [tgIx])).2 r
    exact q _ _ sv'
  | t is =>
    cases d <;> simp only [bindT, reduceCtorEq] at e
    cases r with
    | tup ht hl =>
      refine ⟨_, _, rfl, ht, ?_, svL sv z hl e q⟩
      rw [hl.len]
      exact setL_len e
theorem len_zeroL : ∀ (is : List Nat) (A : Lv), (zeroL A is).length = A.length
  | [], _ => rfl
  | i :: is, A => by
    show (zeroL (A.set i 0) is).length = _
    rw [len_zeroL is, List.length_set]
theorem bindT_noexc (tg : Tg) (d : D) (ρ : En) (n : Nat) (i : Int) : bindT tg d ρ ≠ .exc n i := by
  cases tg with
  | v i => simp [bindT]
  | t is =>
    cases d <;> simp only [bindT, ne_eq, reduceCtorEq, not_false_eq_true]
    rename_i xs
    induction is generalizing xs ρ with
    | nil => cases xs <;> simp [setL]
    | cons i is ih => cases xs <;> simp [setL]; exact ih _ _
theorem st_asgT {is : List Nat} {e : E} {ts : List Expr} {kk : Nat} {tp pos : Pos} {y : Expr} (xc : XC X k c T F cl) (g : GX X X.env.scope) (ht : mTg X.N X.env.scope (.t is) (.Tuple ts kk tp) = true) (hl : notLc y = true) (ho : oneVal y = true) (he : Snd X T F W cl e y) :
    StS X T F W cl fu rl (.asgT is e) (.Assign [.Tuple ts kk tp] y pos) := fun L A ok => by
  simp only [okSt, Bool.and_eq_true, List.all_eq_true, decide_eq_true_eq] at ok
  refine PS.imp (ps_asg (modeM he (A := A) ok.2) (pg_tg g xc.nd xc.calm ht) (by rw [swapsWithSole]; exact sw_plain hl _ _ _) (sws_one ho _ _ _ _) rfl) fun D σ H ⟨H0, P0, ρ, Ss, sv, an⟩ => ?_
  simp only [evS, post] at an
  refine ⟨ρ, _, sv.ev, (AnS.an (σ := σ) (H := H) an sv.same).imp fun d _ an v H1 S s nd f5 r => ?_⟩
  cases eb : bindT (.t is) d ρ with
  | bad => rw [eb] at an; exact an.elim
  | exc n j => exact absurd eb (bindT_noexc _ _ _ _ _)
  | ok ρ' =>
    rw [eb] at an
    obtain ⟨Ss', sv', m⟩ := (sv.to s).weakI (B := zeroL A is) fun j => (lv_zeroL is A j).elim (fun z => by rw [z]; exact Nat.zero_le _) fun z => Nat.le_of_eq z
    obtain ⟨S', sub, r'⟩ := Rp.weakN d r (Nat.zero_le _) (fr_le T e) nd
    have e0 := Rp.nilS d r'
    subst e0
    refine svT sv' (fun i hi => ⟨lv_zeroL_in is A hi, by rw [len_zeroL]; exact ok.1 i hi⟩) (r'.wP fun a p => ?_) eb fun σ' Ss2 sv2 => kS_nx (ρ := ρ') an _ _ _ sv2
    have q : Sg P0 H0 Ss a := by
      rcases p with ⟨p | p, _⟩ | ⟨p, _⟩
      · exact p
      · exact sv.newSg p
      · exact sv.newSg (f5 a p)
    exact ⟨q.1, fun j z => q.2 j (m j a z)⟩
theorem sws_par {x y : Str} {u w : Expr} {px py pt : Pos} {kt k2 : Nat} {pt2 : Pos} {env : Env} (hb : env.blockKind = .function) (hx : env.scope.names.lookup x = some .local) (hy : env.scope.names.lookup y = some .local) (hne : x ≠ y) (hln : px.line = py.line) (pu : plainX u = true) (pw : plainX w = true)
    (h1 : (foldedForSure 8 u && foldedForSure 8 w) = false) (h2 : (constantsAlone 8 u && constantsAlone 8 w) = false) : swappedStores [.Tuple [.Name x px, .Name y py] kt pt] (.Tuple [u, w] k2 pt2) env = pure (some [x, y]) := by
  have hyx : (y == x) = false := by simpa using fun z => hne z.symm
  have hl : (py.line == px.line) = true := by simp [hln]
  have n1 : env.kindOf x = some .local := hx
  have n2 : env.kindOf y = some .local := hy
  have p1 : (Expr.Name x px).pos.line = px.line := rfl
  simp only [swappedStores]
  simp [hb, n1, n2, p1, hln, hl, h1, h2, List.eraseDups_cons, hyx]
  intro h
  exfalso
  rcases h with h | h
  · cases u <;> first | (cases h; done) | (simp [plainX] at pu)
  · cases w <;> first | (cases h; done) | (simp [plainX] at pw)
theorem st_par {i j : Nat} {a b : E} {x y : Str} {u w : Expr} {px py pt : Pos} {kt k2 : Nat} {pt2 pos : Pos} (xc : XC X k c T F cl) (hb : X.env.blockKind = .function) (hi : X.N[i]? = some x) (hj : X.N[j]? = some y) (hx : X.env.scope.names.lookup x = some .local) (hy : X.env.scope.names.lookup y = some .local) (hne : x ≠ y) (hln : px.line = py.line)
    (pu : plainX u = true) (pw : plainX w = true) (h1 : (foldedForSure 8 u && foldedForSure 8 w) = false) (h2 : (constantsAlone 8 u && constantsAlone 8 w) = false) (ha : Snd X T F W cl a u) (hbb : Snd X T F W cl b w) :
    StS X T F W cl fu rl (.par i j a b) (.Assign [.Tuple [.Name x px, .Name y py] kt pt] (.Tuple [u, w] k2 pt2) pos) := fun L A ok => by
  simp only [okSt, Bool.and_eq_true, decide_eq_true_eq] at ok
  obtain ⟨⟨⟨⟨ok1, ok2⟩, ok3⟩, ok4⟩, ok5⟩ := ok
  have st2 := star_cons pw [] X.env
  have st := star_cons pu [w] X.env
  refine PS.imp (ps_par xc.calm xc.nd hi hj ok3 hx hy (pa_cons (modeM ha (A := A) ok4) (pa_cons (modeM hbb (A := A) ok5) pa_nil st2) st) (sws_par hb hx hy hne hln pu pw h1 h2) (by rw [swapsWithSole]; rfl)) fun D σ H ⟨H0, P0, ρ, Ss, sv, an⟩ => ?_
  simp only [evS, post] at an
  refine ⟨ρ, _, sv.ev, (AnS.an (σ := σ) (H := H) an sv.same).imp fun d _ an v H1 S s nd f5 r => ?_⟩
  refine ⟨ρ, _, sv.ev.dom.same s, (AnS.an (σ := σ) (H := H1) an (sv.same.trans s)).imp fun d2 _ an v2 H2 S2 s2 nd2 f52 r2 => ⟨v, v2, rfl, ?_⟩⟩
  have p1 := sv.put s ok1 (fr_le T a) nd f5 r
  have p2 := p1.put s2 (by rw [List.length_set]; exact ok2) (fr_le T b) nd2 f52 (r2.wP fun z ⟨q1, q2⟩ => ⟨?_, q2⟩)
  · exact kS_nx an _ _ _ p2
  · rcases q1 with ⟨q, hn⟩ | q
    · refine .inl ⟨q.1, fun jj => ?_⟩
      dsimp only
      split
      · exact fun m => hn (f5 z m)
      · exact q.2 jj
    · exact .inr q
theorem st_wh {B : Lv} {t : E} {b : List Sm} {x : Expr} {p : List Stmt} {pos : Pos} (hp : PassesOwn (model X.prog X.w) X.A X.env X.xe) (ht : SndT X F W cl t x) (hb : StB X T F W cl fu rl b p) : StS X T F W cl fu rl (.wh B t b) (.While x p [] pos) := fun L A ok => by
  simp only [okSt, Bool.and_eq_true] at ok
  obtain ⟨⟨ok1, ok2⟩, ok3⟩ := ok
  refine PS.imp (ps_while hp ht (hb B B ok2)) fun D σ H ⟨H0, P0, ρ, Ss, sv, an⟩ => ?_
  simp only [evS, post] at an
  obtain ⟨Ss0, sv0⟩ := sv.weak (covers_le ok1)
  refine ⟨fun m σ' H' => ∃ ρ' Ss', SV X.K H0 P0 B ρ' σ' H' Ss' ∧ AnS W cl H0 (whGo (fun ρ => (evE F t ρ).bind tru) (evB F fu b) m ρ') (kS X.K H0 P0 L rl B D), ⟨fu, ρ, Ss0, sv0, an⟩, ?_⟩
  rintro m σ1 H1 ⟨ρ1, Ss1, sv1, an1⟩
  cases m with
  | zero => exact an1.elim
  | succ m =>
    simp only [whGo] at an1
    refine ⟨ρ1, sv1.ev.free, (AnS.an an1 sv1.same).imp fun kk _ an2 H2 s => ?_⟩
    cases kk with
    | false => exact iteF (kS_nx an2 _ _ _ (sv1.to s))
    | true =>
      refine iteT ⟨fun σ' H' => ∃ ρ' Ss', SV X.K H0 P0 B ρ' σ' H' Ss' ∧ AnS W cl H0 (whGo (fun ρ => (evE F t ρ).bind tru) (evB F fu b) m ρ') (kS X.K H0 P0 L rl B D), fun σ' H' z => ⟨m, Nat.lt_succ_self m, z⟩, H0, P0, ρ1, Ss1, sv1.to s, ?_⟩
      have an2 : AnS W cl H0 ((evB F fu b ρ1).bind fun o => o.turn (whGo (fun ρ => (evE F t ρ).bind tru) (evB F fu b) m)) (kS X.K H0 P0 L rl B D) := an2
      cases eb : evB F fu b ρ1 with
      | bad => rw [eb] at an2; exact an2.elim
      | exc n j => rw [eb] at an2; exact an2
      | ok o =>
        rw [eb] at an2
        cases o with
        | nx ρ' =>
          intro σ' H' Ss' sv'
          obtain ⟨Ss2, sv2⟩ := sv'.weak (covers_le ok3)
          exact ⟨ρ', Ss2, sv2, an2⟩
        | rt d => exact an2
        | bk ρ' => exact an2
theorem st_for {B : Lv} {tg : Tg} {it : I} {b : List Sm} {t x : Expr} {p : List Stmt} {pos : Pos} (xc : XC X k c T F cl) (g : GX X X.env.scope) (hp : PassesOwn (model X.prog X.w) X.A X.env X.xe) (ht : mTg X.N X.env.scope tg t = true) (px : plainX x = true) (hi : SndI X T F W cl it t x) (hb : StB X T F W cl fu rl b p) :
    StS X T F W cl fu rl (.for B tg it b) (.For t x p [] pos) := fun L A ok => by
  simp only [okSt, Bool.and_eq_true, List.all_eq_true, decide_eq_true_eq, beq_iff_eq] at ok
  obtain ⟨⟨⟨⟨ok1, ok2⟩, ok3⟩, ok4⟩, ok5⟩ := ok
  refine PS.imp (ps_for hp xc.calm (hi false A (by exact ok2)) (pg_tg g xc.nd xc.calm ht) (hb B B ok4) (folded_plain px _)) fun D σ H ⟨H0, P0, ρ, Ss, sv, an⟩ => ?_
  simp only [evS, post] at an
  refine ⟨ρ, _, sv.ev, (AnS.an (σ := σ) (H := H) an sv.same).imp fun xs _ an J H1 s wd => ?_⟩
  have sv1 := sv.to s
  obtain ⟨Ss0, sv0⟩ := sv1.zoom.weak (covers_le ok1)
  refine ⟨fun i m σ' H' => m = xs.length - i ∧ i ≤ xs.length ∧ ∃ ρ' Ss', SV X.K (cutH H1 Ss) (cutP H1 P0 H0 Ss) B ρ' σ' H' Ss' ∧ AnS W cl H0 (forGo tg (evB F fu b) (xs.drop i) ρ') (kS X.K H0 P0 L rl B D), ⟨xs.length, by simp, Nat.zero_le _, ρ, Ss0, sv0, by simpa using an⟩, ?_⟩
  rintro i m σ2 H2 ⟨rfl, hle, ρ2, Ss2, sv2, an2⟩
  have keep : Keeps (fun a => false = true ∨ Sg P0 H0 Ss a ∨ H a = none) [] H1 H2 := fun b o e q => by
    have n : ∀ j, b ∉ Ss j := fun j z => by
      rcases q with q | q | q
      · cases q
      · rcases q with q | q | q
        · cases q
        · exact q.2 j z
        · obtain ⟨w, e'⟩ := sv.own j b z; rw [q] at e'; cases e'
      · obtain ⟨w, e'⟩ := sv1.own j b z
        rw [e] at e'
        cases e'
        exact q.elim
    exact sv2.same _ _ (by rw [cutH_out n]; exact e)
  obtain ⟨wgo, wst⟩ := wd i H2 keep
  cases ex : xs[i]? with
  | none =>
    refine .inl ⟨wst ex, ?_⟩
    have hi : xs.length ≤ i := List.getElem?_eq_none_iff.mp ex
    rw [List.drop_of_length_le hi] at an2
    exact kS_nx (ρ := ρ2) an2 _ _ _ (sv1.unzoom sv2)
  | some xd =>
    obtain ⟨hi, hx⟩ := List.getElem?_eq_some_iff.mp ex
    obtain ⟨wg, wy⟩ := wgo xd ex
    rw [List.drop_eq_getElem_cons hi, hx] at an2
    simp only [forGo] at an2
    refine .inr ⟨wg, fun σ' H' => ∃ ρ' Ss', SV X.K (cutH H1 Ss) (cutP H1 P0 H0 Ss) B ρ' σ' H' Ss' ∧ AnS W cl H0 (forGo tg (evB F fu b) (xs.drop (i + 1)) ρ') (kS X.K H0 P0 L rl B D), fun σ' H' z => ⟨xs.length - (i + 1), by omega, rfl, by omega, z⟩, fun v H3 y => ?_⟩
    obtain ⟨s3, rv⟩ := wy v H3 y
    cases eb : bindT tg xd ρ2 with
    | bad => rw [eb] at an2; exact an2.elim
    | exc n j => exact absurd eb (bindT_noexc _ _ _ _ _)
    | ok ρ3 =>
      rw [eb] at an2
      have an2 : AnS W cl H0 ((evB F fu b ρ3).bind fun o => o.turn (forGo tg (evB F fu b) (xs.drop (i + 1)))) (kS X.K H0 P0 L rl B D) := an2
      refine svT (sv2.to s3) ok3 (rv.wP fun a ⟨p1, p2⟩ => ?_) eb fun σ4 Ss4 sv4 => ⟨_, _, ρ3, Ss4, sv4, ?_⟩
      · have q : Sg P0 H0 Ss a := p1.elim id fun z => sv.newSg z
        refine ⟨.inl ⟨q, p2⟩, fun j z => ?_⟩
        have := sv2.fr j a z
        rw [cutH_out q.2] at this
        exact p2 this
      · cases e4 : evB F fu b ρ3 with
        | bad => rw [e4] at an2; exact an2.elim
        | exc n j =>
          rw [e4] at an2
          exact fun σ' H' dd s' e' => an2 σ' H' dd (cut_same sv1 s') e'
        | ok o =>
          rw [e4] at an2
          cases o with
          | nx ρ' =>
            intro σ' H' Ss' sv'
            obtain ⟨Ss5, sv5⟩ := sv'.weak (covers_le ok5)
            exact ⟨ρ', Ss5, sv5, an2⟩
          | rt d =>
            have an2 : Po X.K H0 P0 rl d D.rt := an2
            exact fun v' H' S s' nd f5 r => an2 v' H' S (cut_same sv1 s') nd (fun a z => cut_free sv1 (f5 a z)) (r.wP fun a ⟨p1, p2⟩ => ⟨p1.elim (fun z => z.1.1) fun z => .inr (cut_free sv1 z), p2⟩)
          | bk ρ' =>
            intro σ' H' Ss' sv'
            exact kS_nx (ρ := ρ') an2 _ _ _ (sv1.unzoom sv')
end
end TW

/-! all statements -/
namespace TW
open PySem PySem.Spec PyProof.Rows L2
section
variable {X : Cx} {T : RTs} {F : Fs} {W : WX} {cl : Cl} {k fu rl : Nat} {c : Cn}
theorem mI_noLc {N : List Str} {c : Cn} {sc : Scope} {it : I} {tg x : Expr} (h : mI N c sc it tg x = true) : plainX x = true := mI_plain h
def swc (scope : Scope) (x : Str) (p : Pos) (l : Nat) (env : Env) : Bool := env.blockKind == .function && env.kindOf x == some .local && p.line == l && !(scope.names.any fun (n, k) => n == x && (k == .local || k == .cell))
theorem sw_lc {elt : Expr} {gs : List Comprehension} {scope : Scope} {pos p : Pos} {x : Str} {l : Nat} {env : Env} : swapsWith (.ListComp elt gs scope pos) (some (.Name x p)) l env = pure (swc scope x p pos.line env) := rfl
theorem mE_lc {N : List Str} {c : Cn} {sc : Scope} {e : E} {x : Expr} (h : mE N c sc e x = true) (hl : notLc x = false) : ∃ own tg it ifs e', e = .lc own tg it ifs e' ∧ ∃ elt gs scope pos, x = .ListComp elt gs scope pos := by
  cases x <;> simp only [notLc, reduceCtorEq, Bool.true_eq_false] at hl
  all_goals cases e <;> first | (simp only [mE, reduceCtorEq, Bool.false_eq_true] at h; done) | skip
  exact ⟨_, _, _, _, _, rfl, _, _, _, _, rfl⟩
/-- a name's assignment, whatever the value -/
theorem st_asgAny {i : Nat} {e : E} {x : Str} {y : Expr} {p pos : Pos} (xc : XC X k c T F cl) (g : GX X X.env.scope) (tk : Takes X W) (hi : X.N[i]? = some x) (hx : locB X.env.scope x = true) (h : mE X.N c X.env.scope e y = true) : StS X T F W cl fu rl (.asg i e) (.Assign [.Name x p] y pos) := by
  cases hl : notLc y with
  | true => exact st_asg xc g hi hx hl (snd trivial e xc g tk h).1
  | false =>
    obtain ⟨own, tg, it, ifs, e', rfl, elt, gs, scope, lp, rfl⟩ := mE_lc h hl
    cases hs : swc scope x p lp.line X.env with
    | false =>
      intro L A ok
      have ok' := ok
      simp only [okSt, Bool.and_eq_true, decide_eq_true_eq] at ok'
      have l := g.loc x hx
      exact PS.imp (ps_set xc.nd hi l.1 (modeM (snd trivial _ xc g tk h).1 (A := A) ok'.2) (by rw [sw_lc, hs]) l.2) fun D σ H h => asg_end ok h
    | true =>
      have hk : X.env.scope.names.lookup x = some .local := by
        simp only [swc, Bool.and_eq_true, beq_iff_eq] at hs
        exact hs.1.1.2
      match gs, h with
      | [], h => simp [mE] at h
      | _ :: _ :: _, h => simp [mE] at h
      | [⟨tga, ita, ifa, asy⟩], h =>
        simp only [mE, Bool.and_eq_true, beq_iff_eq] at h
        obtain ⟨⟨⟨⟨⟨⟨⟨rfl, h0⟩, h1⟩, h2⟩, h3⟩, h4⟩, h5⟩, h6⟩ := h
        have sp : plainX ita = true := mI_plain h4
        have one : ∀ a b r, ifs ≠ .cons a (.cons b r) := fun a b r e => by subst e; simp [oneIf] at h0
        intro L A ok
        have ok' := ok
        simp only [okSt, Bool.and_eq_true, decide_eq_true_eq] at ok'
        have hifs : ∀ (s : Shared) (H : Hp) (C : Addr) (cll : List (Str × Addr)) (fp : List Addr), PTs (X.blk s H scope (compEnvC scope cll C X.env) fp) ifa (gIf X.K F cl ifs) := fun s H C cll fp => by
              have bl := sndL trivial ifs (X := X.blk s H scope (compEnvC scope cll C X.env) fp) xc.blk GX.blk takesW0 h5
              cases ifs with
              | nil =>
                cases ifa with
                | nil => exact pts_nil
                | cons _ _ => simp [mL] at h5
              | cons a r =>
                cases r with
                | cons b r => exact absurd rfl (one a b r)
                | nil =>
                  cases ifa with
                  | nil => simp [mL] at h5
                  | cons y ys =>
                    cases ys with
                    | cons _ _ => simp [mL] at h5
                    | nil => exact pts_one bl.2.2.1
        have body : okS T A (.lc own tg it ifs e') = true → PS X (.Assign [.Name x p] (.ListComp elt [⟨tga, ita, ifa, 0⟩] scope lp) pos) (tAsg (tE X.K T F W cl A (.lc own tg it ifs e')) (gName i)) := fun okk =>
          s_setLc xc (fun i hi => by simpa using List.all_eq_true.mp h1 i hi) (blk_of g h2) (sndI trivial it xc g tk h4) (folded_plain sp _) h3
            hifs one
            (fun s H C cll fp => (snd trivial e' (X := X.blk s H scope (compEnvC scope cll C X.env) fp) xc.blk GX.blk takesW0 h6).1) hi hk (by rw [sw_lc, hs]) okk
        cases hz : okS T A (.lc own tg it ifs e') with
        | true => exact PS.imp (body hz) fun D σ H h => asg_end ok h
        | false =>
          -- all that is made is owned: the slots may be read as shared
          have f99 : fr T (.lc own tg it ifs e') = 99 := by
            have q := ok'.2
            unfold okM at q
            rw [hz, Bool.or_false, beq_iff_eq] at q
            exact q
          have okz := okS_zr T (.lc own tg it ifs e') lv_nil
          have body0 := s_setLc (A := []) (spos := pos) (py := p) (y := x) (pos := lp) (i := i) xc (fun i hi => by simpa using List.all_eq_true.mp h1 i hi) (blk_of g h2) (sndI trivial it xc g tk h4) (folded_plain sp _) h3
            hifs one
            (fun s H C cll fp => (snd trivial e' (X := X.blk s H scope (compEnvC scope cll C X.env) fp) xc.blk GX.blk takesW0 h6).1) hi hk (by rw [sw_lc, hs]) okz
          refine PS.imp body0 fun D σ H h => ?_
          obtain ⟨ρ, P, ev, an⟩ := asg_end ok h
          refine ⟨ρ, _, ev.free, an.imp fun d _ q => ?_⟩
          rw [f99] at q ⊢
          exact fun v H' S s nd fr r => q v H' S s nd fr (Rp.all d r)
mutual
theorem sndS (xc : XC X k c T F cl) (g : GX X X.env.scope) (tk : Takes X W) (hp : PassesOwn (model X.prog X.w) X.A X.env X.xe) (hb : X.env.blockKind = .function) : ∀ (s : Sm) (st : Stmt), mS X.N c X.env.scope s st = true → StS X T F W cl fu rl s st
  | .asg i e, st, h => by
    simp only [mS] at h
    unfold fAsg at h
    split at h
    · simp only [Bool.and_eq_true, beq_iff_eq] at h
      exact st_asgAny xc g tk h.1.1 h.1.2 h.2
    · cases h
  | .asgT is e, st, h => by
    simp only [mS] at h
    unfold fAsgT at h
    split at h
    · simp only [Bool.and_eq_true] at h
      exact st_asgT xc g h.1.1.1 h.1.2 h.2 (snd trivial e xc g tk h.1.1.2).1
    · cases h
  | .par i j a b, st, h => by
    simp only [mS] at h
    unfold fPar at h
    split at h
    · simp only [Bool.and_eq_true, beq_iff_eq, bne_iff_ne, ne_eq, Bool.not_eq_true'] at h
      obtain ⟨⟨⟨⟨⟨⟨⟨⟨⟨h1, h2⟩, h3⟩, h4⟩, h5⟩, h6⟩, h7⟩, h8⟩, h9⟩, h10⟩ := h
      exact st_par xc hb h1 h2 h4 h5 h3 h6 (mE_plain h7) (mE_plain h8) h9 h10 (snd trivial a xc g tk h7).1 (snd trivial b xc g tk h8).1
    · cases h
  | .ex e, st, h => by
    simp only [mS] at h
    unfold fEx at h
    split at h
    · simp only [Bool.and_eq_true] at h
      exact st_ex h.2 (snd trivial e xc g tk h.1).1
    · cases h
  | .app i e, st, h => by
    simp only [mS] at h
    unfold fApp at h
    split at h
    · simp only [Bool.and_eq_true, beq_iff_eq] at h
      obtain ⟨⟨⟨⟨⟨rfl, h1⟩, h2⟩, h3⟩, h4⟩, h5⟩ := h
      exact st_app g h1 h2 h3 (by simpa using h4) (mE_plain h5) (snd trivial e xc g tk h5).1
    · cases h
  | .pop i, st, h => by
    simp only [mS] at h
    unfold fPop at h
    split at h
    · simp only [Bool.and_eq_true, beq_iff_eq] at h
      obtain ⟨⟨⟨⟨rfl, h1⟩, h2⟩, h3⟩, h4⟩ := h
      exact st_pop g h1 h2 h3 (by simpa using h4)
    · cases h
  | .set i kk e, st, h => by
    simp only [mS] at h
    unfold fSet at h
    split at h
    · simp only [Bool.and_eq_true, beq_iff_eq] at h
      obtain ⟨⟨⟨⟨⟨h1, h2⟩, h3⟩, h4⟩, h5⟩, h6⟩ := h
      exact st_set g h1 h2 h3 h6 (mE_plain h4) (snd trivial e xc g tk h5).1 (snd trivial kk xc g tk h4).1
    · cases h
  | .ite t a b, st, h => by
    simp only [mS] at h
    split at h
    · simp only [Bool.and_eq_true] at h
      exact st_ite (snd trivial t xc g tk h.1.1).2 (sndB xc g tk hp hb a _ h.1.2) (sndB xc g tk hp hb b _ h.2)
    · cases h
  | .wh B t b, st, h => by
    simp only [mS] at h
    split at h
    · simp only [Bool.and_eq_true] at h
      exact st_wh hp (snd trivial t xc g tk h.1).2 (sndB xc g tk hp hb b _ h.2)
    · cases h
  | .for B tg it b, st, h => by
    simp only [mS] at h
    split at h
    · simp only [Bool.and_eq_true] at h
      exact st_for xc g hp h.1.1 (mI_plain h.1.2) (sndI trivial it xc g tk h.1.2) (sndB xc g tk hp hb b _ h.2)
    · cases h
  | .ret e, st, h => by
    simp only [mS] at h
    unfold fRet at h
    split at h
    · exact st_ret g h (snd trivial e xc g tk h).1
    · cases h
  | .retN, st, h => by
    simp only [mS] at h
    unfold fRetN at h
    split at h
    · exact st_retN
    · cases h
  | .brk, st, h => by
    simp only [mS] at h
    unfold fBrk at h
    split at h
    · exact st_brk
    · cases h
  | .pass, st, h => by
    simp only [mS] at h
    unfold fPass at h
    split at h
    · exact st_pass
    · exact st_doc
    · cases h
  | .lv _, st, h => by simp [mS] at h
theorem sndB (xc : XC X k c T F cl) (g : GX X X.env.scope) (tk : Takes X W) (hp : PassesOwn (model X.prog X.w) X.A X.env X.xe) (hb : X.env.blockKind = .function) : ∀ (ss : List Sm) (sts : List Stmt), mBk X.N c X.env.scope ss sts = true → StB X T F W cl fu rl ss sts
  | [], sts, h => by
    cases sts with
    | nil => exact b_nil
    | cons _ _ => simp [mBk] at h
  | s :: ss, sts, h => by
    unfold mBk at h
    cases q : isLv s with
    | true =>
      cases s <;> simp only [isLv, reduceCtorEq, Bool.false_eq_true] at q
      exact b_lv (sndB xc g tk hp hb ss sts (by simpa [isLv] using h))
    | false =>
      rw [q] at h
      cases sts with
      | nil => simp at h
      | cons st r =>
        have h : (mS X.N c X.env.scope s st && mBk X.N c X.env.scope ss r) = true := h
        simp only [Bool.and_eq_true] at h
        exact b_cons (sndS xc g tk hp hb s st h.1) (sndB xc g tk hp hb ss r h.2)
end
end
end TW

/-! defs; the table of the text's defs -/
namespace TW
open PySem PySem.Spec PyProof.Rows L2

/-- the context of a def's body -/
abbrev bodyX (P : Program) (w : World) (K : PySem.W.Frag) (mg : Str → Option Value) (base : Heap) (N : List Str) (q : Str) (sc : Scope) (f : Addr) (cd : Value) (A : Around) (outer : List Env) (s : Shared) (H : Hp) (E : XK) : Cx := cxOf (L2.CX P w) P w K mg base N q sc f cd A outer s H E
section
variable {P : Program} {w : World} {K : PySem.W.Frag} {mg : Str → Option Value} {base : Heap}
theorem body_takes {N : List Str} {q : Str} {sc : Scope} {f : Addr} {cd : Value} {A : Around} {outer : List Env} {s : Shared} {H : Hp} {E : XK} : Takes (bodyX P w K mg base N q sc f cd A outer s H E) (fun cls d _ H' => E cls d H') :=
  takes_of (X := bodyX P w K mg base N q sc f cd A outer s H E) rfl rfl rfl rfl
theorem body_passes {N : List Str} {q : Str} {sc : Scope} {f : Addr} {cd : Value} {A : Around} {outer : List Env} {s : Shared} {H : Hp} {E : XK} : PassesOwn (model P w) (bodyX P w K mg base N q sc f cd A outer s H E).A (bodyX P w K mg base N q sc f cd A outer s H E).env (bodyX P w K mg base N q sc f cd A outer s H E).xe :=
  passes_of (X := bodyX P w K mg base N q sc f cd A outer s H E) rfl
/-- a def's promise from its body -/
theorem fnG_by {k : Nat} {x : Str} {st : Stmt} {f : Addr} {fd : FuncData} {N ps : List Str} {sp : Sp} (U : Fun K x x st f fd) (S : FnScope N ps (defScope st)) (len : ∀ vs H Q E, sp vs H Q E → vs.length = ps.length)
    (hbody : ∀ (cd : Value) (A : Around) (outer : List Env) (s : Shared) (H : Hp) (vs : List V) (Q : VK) (E : XK), A.guards = some [] → Mod K mg base → Room k (A.deeper (envOfC x (defScope st) s.heap.objs.size f cd)) → sp vs H Q E →
      ∃ t, PSs (bodyX P w K mg base N x (defScope st) f cd A outer s H E) (defBody st) t ∧ t { nx := fun _ H' => Q .non H', rt := Q } (L2.start N vs) H) : FnG P w K mg base (k + 1) f fd ps sp where
  len := len
  run := by
    intro A outer s H args us vs Q E hr gu e0 hb r hsp
    obtain ⟨oc, od, kV, doc, pm, an, cd, ct, osl, rfl, lk, hcd⟩ := U.ex
    have there : ∀ b o, base.get? b = some o → s.heap.get? b = some o := fun b o e => (e0.bs b o e).1
    have kin := e0.mod.kin.keeps there
    have ways : ∀ y ∈ ps.zip us, (defScope st).names.lookup y.1 = some .local ∨ ((defScope st).names.lookup y.1 = some .cell ∧ ((cellsFrom (s.heap.objs.size + 1) (defScope st).names []).lookup y.1).isSome = true) := by
      intro y hy
      obtain ⟨n, v⟩ := y
      exact (S.par n (List.of_mem_zip hy).1).imp id fun z => ⟨z, PySem.W.cellsFrom_some _ _ _ (.inl z)⟩
    apply codeAny_call_function hr.depth (kin _ _ lk) rfl S.co S.gen rfl (PySem.W.codeRec_of kin hcd)
    apply hb
    apply wpAny_newFunctionEnv_cells S.kind ways
    rintro env rfl s1 x
    refine ⟨(e0.mod.nolimit.keeps there).keeps x.toInCall.keep, codeAny_func ?_⟩
    obtain ⟨t, ht, hq⟩ := hbody cd A outer s H vs Q E gu e0.mod (hr.deeper _) hsp
    have I := inv_start (CX := L2.CX P w) (qual := _) (f := f) (cd := cd) (E := E) S hr.hd e0 (len _ _ _ _ hsp) r x
    refine wpAny_mono (ht.run [] s1 (L2.start N vs) H _ I hq) ?_ fun _ _ z => z
    intro fl s' z
    cases fl with
    | brk => obtain ⟨_, _, _, z⟩ := z; exact z.elim
    | cont => obtain ⟨_, _, _, z⟩ := z; exact z.elim
    | ret u =>
      obtain ⟨v, σ', H', J, rv, z⟩ := z
      exact ⟨v, H', J.os, J.bare, J.base, J.hok, rv, z⟩
    | next =>
      obtain ⟨σ', H', J, z⟩ := z
      exact ⟨.non, H', J.os, J.bare, J.base, J.hok, rfl, z⟩
end

/-! ### the table -/
structure Fd where
  nm : Str
  st : Stmt
  N : List Str
  ps : List Str
  rl : Nat
  body : List Sm
def tabT (tbl : List Fd) : RTs := fun f => match tbl[f]? with
  | some d => d.rl
  | none => 0
def tabC (tbl : List Fd) (gl : List (Str × C)) : Cn := ⟨tbl.map (·.nm), gl⟩
/-- what a call gives: none, where the body ends by itself -/
def Ou.res : Ou → R D
  | .rt d => .ok d
  | .nx _ => .ok .non
  | .bk _ => .bad
def enter (d : Fd) (ds : List D) : En := ds.map some ++ List.replicate (d.N.length - ds.length) none
def callF (tbl : List Fd) (fu : Nat) : Nat → Fs
  | 0, _, _ => .bad
  | k + 1, f, ds => match tbl[f]? with
    | some d => if ds.length = d.ps.length then (evB (callF tbl fu k) fu d.body (enter d ds)).bind Ou.res else .bad
    | none => .bad
def scB (N ps : List Str) (sc : Scope) : Bool :=
  sc.kind == .function && !sc.isCoroutine && !sc.isGenerator && decide N.Nodup && N.take ps.length == ps && (ps.all fun x => sc.names.lookup x == some .local || sc.names.lookup x == some .cell) && sc.names.all fun y => y.2 != .free
theorem scB_ok {N ps : List Str} {sc : Scope} (h : scB N ps sc = true) : FnScope N ps sc := by
  simp only [scB, Bool.and_eq_true, beq_iff_eq, decide_eq_true_eq, Bool.not_eq_true', List.all_eq_true, Bool.or_eq_true, bne_iff_ne, ne_eq] at h
  obtain ⟨⟨⟨⟨⟨⟨a, b⟩, c⟩, d⟩, e⟩, f⟩, g⟩ := h
  exact { kind := a, co := b, gen := c, nd := d, pre := e, par := f, nofree := g }
def chkF (c : Cn) (T : RTs) (d : Fd) : Bool := mBk d.N c (defScope d.st) d.body (defBody d.st) && okB T (min d.rl 99) [] d.body (List.replicate d.N.length 0) && scB d.N d.ps (defScope d.st)
structure Facts (K : PySem.W.Frag) (mg : Str → Option Value) (tbl : List Fd) (gl : List (Str × C)) : Prop where
  fns : ∀ (f : Nat) (d : Fd), tbl[f]? = some d → ∃ a fd, Fun K d.nm d.nm d.st a fd ∧ mg d.nm = some (.ref a) ∧ Binds K fd d.ps []
  blt : ∀ n ∈ bltNames, mg (Str.ofString n) = none
  glb : ∀ x v, (x, v) ∈ gl → ∃ u, mg x = some u ∧ RelV v.v u
section
variable {P : Program} {w : World} {K : PySem.W.Frag} {mg : Str → Option Value} {base : Heap} {tbl : List Fd} {gl : List (Str × C)} {cl : Cl} {fu : Nat}
theorem lv_zero (n i : Nat) : lv (List.replicate n 0) i = 0 := by
  unfold lv
  rw [List.getD_eq_getElem?_getD, List.getElem?_replicate]
  split <;> rfl
/-- the slots at the entry -/
theorem sv_start {d : Fd} {H : Hp} {Q : AP} {vs : List V} {ds : List D} (h : RpL K H Q 0 [] vs ds) (hl : ds.length ≤ d.N.length) : SV K H Q (List.replicate d.N.length 0) (enter d ds) (L2.start d.N vs) H (fun _ => []) where
  len := by
    unfold enter L2.start
    simp [h.len]
  same := Same.refl H
  get := fun i x e => by
    unfold enter at e
    have hi : i < ds.length := by
      by_cases hi : i < ds.length
      · exact hi
      · rw [List.getElem?_append_right (by simpa using hi), List.getElem?_replicate] at e
        split at e <;> cases e
    rw [List.getElem?_append_left (by simpa using hi), List.getElem?_map] at e
    cases q : ds[i]? with
    | none => rw [q] at e; cases e
    | some y =>
      rw [q] at e
      cases e
      obtain ⟨v, hv, r⟩ := RpL.get h q
      refine ⟨v, ?_, by rw [lv_zero]; omega, ?_⟩
      · unfold L2.start
        rw [List.getElem?_append_left (by rw [List.length_map, h.len]; exact hi), List.getElem?_map, hv]
        rfl
      · rw [lv_zero]
        exact r.wP fun a p => ⟨.inl p, fun _ z => nomatch z⟩
  nd := fun _ => .nil
  dj := fun _ _ _ z => nomatch z
  fr := fun _ _ z => nomatch z
  own := fun _ _ z => nomatch z
/-- every def of the table keeps its promise -/
theorem allFn (fc : Facts K mg tbl gl) (chk : tbl.all (chkF (tabC tbl gl) (tabT tbl)) = true) : ∀ (k : Nat) (f : Nat) (d : Fd), tbl[f]? = some d →
    ∀ a fd, Fun K d.nm d.nm d.st a fd → FnG P w K mg base k a fd d.ps (spF K (tabT tbl) (callF tbl fu k) cl f) := fun k => by
  induction k with
  | zero =>
    intro f d e a fd U
    exact ⟨fun vs H Q E ⟨P, ds, _, z⟩ => z.elim, fun A outer s H args us vs Q E hr gu e0 hb r ⟨P, ds, _, z⟩ => z.elim⟩
  | succ k ih =>
    intro f d e a fd U
    have cd := List.all_eq_true.mp chk d (List.mem_of_getElem? e)
    simp only [chkF, Bool.and_eq_true] at cd
    obtain ⟨⟨c1, c2⟩, c3⟩ := cd
    have S := scB_ok c3
    have hpl : d.ps.length ≤ d.N.length := by
      have := congrArg List.length S.pre
      rw [List.length_take] at this
      omega
    have rd : ∀ vs H Q E, spF K (tabT tbl) (callF tbl fu (k + 1)) cl f vs H Q E → ∃ P ds, RpL K H P 0 [] vs ds ∧ ds.length = d.ps.length ∧ match (evB (callF tbl fu k) fu d.body (enter d ds)).bind Ou.res with
        | .ok y => Po K H P (min d.rl 99) y Q
        | .exc n i => ∀ H' dd, Same H H' → H' dd = some (.xd [("at", .int i)]) → E (cl n) (some dd) H'
        | .bad => False := fun vs H Q E ⟨P, ds, r, z⟩ => by
      simp only [callF, e] at z
      by_cases hl : ds.length = d.ps.length
      · rw [if_pos hl] at z
        have eT : tabT tbl f = d.rl := by unfold tabT; rw [e]
        rw [eT] at z
        exact ⟨P, ds, r, hl, z⟩
      · rw [if_neg hl] at z
        exact z.elim
    refine fnG_by U S (fun vs H Q E h => ?_) fun cv A outer s H vs Q E gu md hr h => ?_
    · obtain ⟨P, ds, r, hl, _⟩ := rd vs H Q E h
      rw [r.len, hl]
    · obtain ⟨P0, ds, r, hl, z⟩ := rd vs H Q E h
      have xc : XC (bodyX P w K mg base d.N d.nm (defScope d.st) a cv A outer s H E) k (tabC tbl gl) (tabT tbl) (callF tbl fu k) cl := {
        calm := rfl
        nd := S.nd
        gu := gu
        room := hr
        blt := fc.blt
        glb := fc.glb
        fns := fun f' x hx => by
          have hx : (tbl.map (·.nm))[f']? = some x := hx
          rw [List.getElem?_map] at hx
          cases q : tbl[f']? with
          | none => rw [q] at hx; cases hx
          | some d' =>
            rw [q] at hx
            have hx : d'.nm = x := by simpa using hx
            subst hx
            obtain ⟨a', fd', U', h1, h2⟩ := fc.fns f' d' q
            exact ⟨a', fd', d'.ps, h1, U'.kp, h2, ih f' d' q a' fd' U'⟩ }
      have g : GX (bodyX P w K mg base d.N d.nm (defScope d.st) a cv A outer s H E) (defScope d.st) := GX.self (X := bodyX P w K mg base d.N d.nm (defScope d.st) a cv A outer s H E) fun _ => rfl
      have hbk : (bodyX P w K mg base d.N d.nm (defScope d.st) a cv A outer s H E).env.blockKind = .function := by
        show (if (defScope d.st).kind.isAnnotationScope then ScopeKind.function else (defScope d.st).kind) = _
        rw [S.kind]
        rfl
      refine ⟨_, sndB (fu := fu) xc g body_takes body_passes hbk d.body (defBody d.st) c1 [] (List.replicate d.N.length 0) c2, H, P0, enter d ds, fun _ => [], sv_start r (by omega), ?_⟩
      cases q : evB (callF tbl fu k) fu d.body (enter d ds) with
      | bad => rw [q] at z; exact z.elim
      | exc n i => rw [q] at z; exact fun σ H' dd s' e' => z H' dd s' e'
      | ok o =>
        rw [q] at z
        cases o with
        | nx ρ' =>
          have z : Po K H P0 (min d.rl 99) .non Q := z
          exact fun σ' H' Ss' sv => z .non H' [] sv.same .nil (fun _ z => nomatch z) .non
        | rt y => exact z
        | bk ρ' => exact z.elim
end
end TW

/-! the law's own call -/
namespace TW
open PySem PySem.Spec PyProof.Rows L2

/-- the script alone may stand in the abstract heap -/
def ScH (a : Addr) (vs : List Value) (ns : List Int) (H : Hp) : Prop := (∀ b u, H b = some u → b = a ∧ u = .frz { cls := .type "list", data := .seq vs.toArray } (.lst (ns.map V.int)))
section
variable {P : Program} {w : World} {K : PySem.W.Frag} {mg mb : Str → Option Value} {k : Nat} {fa a : Addr} {fd : FuncData} {x : Str} {s : Shared} {vs : List Value} {ns : List Int} {sp : Sp}
theorem ints_ra {H : Hp} : ∀ (ns : List Int), RpL K H (fun _ => True) 0 [] (ns.map V.int) (ns.map D.int)
  | [] => .nil
  | i :: ns => by
    rw [List.map_cons, List.map_cons]
    exact RpL.cons00 (.int i) (ints_ra ns)
/-- from a heap in which the script stands, or is the module's own -/
theorem call_from (H : Hp) (sc : ScH a vs ns H) (hS : SqL K H a (ns.map V.int)) (hin : K.In s.heap) (hK : ∀ u, H a = some u → K.lookup a = none) (hns : s.heap.Ns mainGlobals mg) (hb : s.heap.Ns builtinsNs mb) (hbb : ∀ x : Str, x ≠ "__name__" → mb x = bootBuiltins x) (hlim : s.heap.NoLimit) (hg : s.gens = #[])
    (ha : s.heap.get? a = some { cls := .type "list", data := .seq vs.toArray }) (hi : IntsAre vs ns) (hl : ns.length ≤ sizeLine) (hr : Room k callerA)
    (F : ∀ base : Heap, K.In base → base.Ns mainGlobals mg → FnG P w K mg base k fa fd [x] sp) (hbind : ∀ (s : Shared) (u : Value), BindsTo s fd ⟨[u], []⟩ [(x, u)])
    (hsp : sp [.ref a] H (fun v _ => v = .bl true) fun _ _ _ => False) :
    codeAny (model P w) callerA (.call (.ref fa) ⟨[.ref a], []⟩) (fun r s' => r = .ok (.ret (.bool true)) ∧ OldK s.heap s'.heap ∧ s'.os = s.os ∧ AllBare s'.gens) s := by
  have hok : HOk P w H s.heap := by
    intro b u e
    obtain ⟨rfl, rfl⟩ := sc b u e
    exact ⟨ha, by rw [List.length_map]; exact hl, vs, _, vals_ints hi, ha⟩
  have other : ∀ {b : Addr} {o : Obj} {es : Array DictEntry} {ep : Nat}, s.heap.get? b = some o → o.data = .dict es ep → H b = none := by
    intro b o es ep e1 e2
    cases hb : H b with
    | none => rfl
    | some u =>
      obtain ⟨rfl, -⟩ := sc b u hb
      rw [ha] at e1
      cases e1
      cases e2
  have nsH : ∀ {b : Addr} {m : Str → Option Value}, s.heap.Ns b m → (hidT s.heap H).Ns b m := by
    rintro b m ⟨o, es, ep, e, d, r⟩
    exact ⟨o, es, ep, hidT_get e (other e d), d, r⟩
  have kin : K.In (hidT s.heap H) := by
    intro b o e
    refine hidT_get (hin b o e) ?_
    cases hb : H b with
    | none => rfl
    | some u =>
      obtain ⟨rfl, -⟩ := sc b u hb
      rw [hK u hb] at e
      cases e
  have md : Mod K mg (hidT s.heap H) := by
    obtain ⟨mc, h1, h2⟩ := hlim
    exact ⟨kin, nsH hns, ⟨mb, nsH hb, hbb⟩, mc, nsH h1, h2⟩
  have none_in : ∀ b : Addr, b ∉ frs [] := fun b z => nomatch (show b ∈ ([] : List Addr) from z)
  have e0 : Env0 P w K mg (hidT s.heap H) callerA [] s H := { frames := rfl, mod := md, bs := fun b o e => of_hidT e, bsz := Nat.le_of_eq (hidT_size _ _), funs := trivial, frf := fun b z => (none_in b z).elim, hok := hok, bare := .of_eq hg }
  have go := (F _ kin (nsH hns)).run callerA [] s H ⟨[.ref a], []⟩ [.ref a] [.ref a] _ _ hr rfl e0 (hbind s (.ref a)) (.cons rfl .nil) hsp
  refine codeAny_mono go ?_
  intro r s' z
  match r, z with
  | .error e, z =>
    obtain ⟨_, _, _, _, _, _, _, _, _, _, _, _, z⟩ := z
    exact z.elim
  | .ok .next, z => exact z.elim
  | .ok .brk, z => exact z.elim
  | .ok .cont, z => exact z.elim
  | .ok (.ret u), z =>
    obtain ⟨v, H', os, bare, un, hok', rv, q⟩ := z
    have hv : v = .bl true := q
    subst hv
    refine ⟨by rw [show u = Value.bool true from rv], OldK.of_keep fun b o e => ?_, os, bare⟩
    cases hb : H b with
    | none => exact un.keep b o e hb (none_in b) (fun z => nomatch z)
    | some u' =>
      obtain ⟨rfl, rfl⟩ := sc b u' hb
      obtain ⟨e2, _⟩ := hok' b _ (un.frzs b _ _ hb)
      rw [ha] at e
      cases e
      exact e2
theorem call_law {tbl : List Fd} {F : Fs} {T : RTs} {cl : Cl} {f0 : Nat} (hin : K.In s.heap) (hns : s.heap.Ns mainGlobals mg) (hb : s.heap.Ns builtinsNs mb) (hbb : ∀ x : Str, x ≠ "__name__" → mb x = bootBuiltins x) (hlim : s.heap.NoLimit) (hg : s.gens = #[])
    (ha : s.heap.get? a = some { cls := .type "list", data := .seq vs.toArray }) (hi : IntsAre vs ns) (hl : ns.length ≤ sizeLine) (hr : Room k callerA)
    (G : ∀ base : Heap, K.In base → base.Ns mainGlobals mg → FnG P w K mg base k fa fd [x] (spF K T F cl f0)) (hbind : ∀ (s : Shared) (u : Value), BindsTo s fd ⟨[u], []⟩ [(x, u)])
    (plain : F f0 [.rol (ns.map .int)] = .ok (.bl true)) :
    codeAny (model P w) callerA (.call (.ref fa) ⟨[.ref a], []⟩) (fun r s' => r = .ok (.ret (.bool true)) ∧ OldK s.heap s'.heap ∧ s'.os = s.os ∧ AllBare s'.gens) s := by
  have told : ∀ H : Hp, SqL K H a (ns.map V.int) → spF K T F cl f0 [.ref a] H (fun v _ => v = .bl true) fun _ _ _ => False := by
    intro H hS
    refine ⟨fun _ => True, [.rol (ns.map .int)], RpL.cons00 (.rol ?_ (ints_ra ns)) .nil, ?_⟩
    · rcases hS with q | q
      · exact .inl ⟨q, trivial⟩
      · exact .inr q
    · rw [plain]
      intro v H' S _ _ _ r
      generalize min (T f0) 99 = m at r
      cases r
      rfl
  cases hk : K.lookup a with
  | none =>
    let H : Hp := fun b => if b = a then some (.frz { cls := .type "list", data := .seq vs.toArray } (.lst (ns.map V.int))) else none
    have hH : H a = some (.frz { cls := .type "list", data := .seq vs.toArray } (.lst (ns.map V.int))) := if_pos rfl
    have hS : SqL K H a (ns.map V.int) := .inl (.inr ⟨_, hH⟩)
    refine call_from H (fun b u e => ?_) hS hin (fun _ _ => hk) hns hb hbb hlim hg ha hi hl hr G hbind (told H hS)
    have e : (if b = a then some (HO.frz { cls := .type "list", data := .seq vs.toArray } (.lst (ns.map V.int))) else none) = some u := e
    split at e
    · cases e; exact ⟨by assumption, rfl⟩
    · cases e
  | some o =>
    have e := hin a o hk
    rw [ha] at e
    cases e
    have hS : SqL K (fun _ => none) a (ns.map V.int) := .inr ⟨_, vs.toArray, _, hk, rfl, rfl, rfl, by rw [List.size_toArray, hi.length]; exact hl, by simpa using vals_ints hi⟩
    exact call_from (fun _ => none) (fun b u e => nomatch e) hS hin (fun u e => nomatch e) hns hb hbb hlim hg ha hi hl hr G hbind (told _ hS)
end
/-- the goal that the head leaves -/
theorem walkT {l : PySem.W.OpenLaw} {n k : Nat} {q : Program} {loose : List Str} {XP : (Str → Option Value) → Heap → Prop} {YP : World → Heap → Prop} {d : DefRec} {K : Params → PySem.W.Frag} {x : Str} {F : Fs} {T : RTs} {cl : Cl} {f0 : Nat}
    (hn : l.most = some n) (hn2 : n ≤ sizeLine) (hdf : d.params.defaults = []) (hr : Room k callerA) (hY : ∀ (w : World) (h : Heap), YP w h → (K w.params).In h)
    (G : ∀ (w : World) (mg : Str → Option Value) (fa : Addr) (h : Heap), (K w.params).In h → h.Ns mainGlobals mg → mg d.name = some (.ref fa) →
      ∃ fd : FuncData, (∀ (s : Shared) (u : Value), BindsTo s fd ⟨[u], []⟩ [(x, u)]) ∧ ∀ base : Heap, (K w.params).In base → base.Ns mainGlobals mg → FnG l.prog w (K w.params) mg base k fa fd [x] (spF (K w.params) T F cl f0))
    (plain : ∀ ns : List Int, ns.length ≤ n → F f0 [.rol (ns.map .int)] = .ok (.bl true)) : PySem.W.WalkO q loose XP YP l.row.toRowW d [] (fun f vs => PySem.call f vs) := by
  refine Att.attach_call hn hdf ?_
  intro w s₀ s₁ mg mb fa o pm cd doc a vs ns top Y ho hd hcd hmg hobj hints hlen hg
  obtain ⟨fd, hb, hF⟩ := G w mg fa _ (hY w _ Y) top.T.g hmg
  exact call_law (tbl := []) (hY w _ Y) top.T.g top.T.b top.T.builtins top.T.nolimit hg hobj hints (Nat.le_trans hlen hn2) hr hF hb (plain ns hlen)
end TW

/-! from the written part -/
namespace TW
open PySem PySem.Spec PyProof.Rows L2
def DefF (K : PySem.W.Frag) (mg : Str → Option Value) (d : Fd) : Prop := ∃ a fd, Fun K d.nm d.nm d.st a fd ∧ mg d.nm = some (.ref a) ∧ Binds K fd d.ps []
def BindsAll (nm : Str) (st : Stmt) (ps : List Str) : Prop := ∀ (kV doc pm : Value) (an : Option Addr) (cdv ct : Value) (us : List Value), us.length = ps.length → bindArgs (PySem.W.fnOf nm nm (defArgs st) (defBody st) (defScope st) .none kV doc pm an cdv ct) ⟨us, []⟩ = pure (ps.zip us)
theorem defF_mk {K : PySem.W.Frag} {h : Heap} {mg : Str → Option Value} {d : Fd} {f : Addr} {od an : Option Addr} {sl : Array (Option Value)} {oc kV dc pm cd ct : Value} (X : K.In h) (G : h.Ns mainGlobals mg) (b : BindsAll d.nm d.st d.ps)
    (a : PySem.W.nsIn K mainGlobals d.nm = some (some (.ref f))) (l : K.lookup f = some ⟨oc, od, .func (PySem.W.fnOf d.nm d.nm (defArgs d.st) (defBody d.st) (defScope d.st) .none kV dc pm an cd ct), sl⟩) (c : PySem.W.codeIn K cd d.nm = true) (k : PySem.W.keepIn K (.ref f) = true) : DefF K mg d := by
  have U := fun_mk (st := d.st) l c k
  exact ⟨f, _, U, PySem.W.mg_of X G a, U.binds b⟩
/-- the law's own def, called with the script -/
theorem lawF {P : Program} {K : PySem.W.Frag} {mg : Str → Option Value} {tbl : List Fd} {gl : List (Str × C)} {cl : Cl} {fu k f0 : Nat} {d : Fd} {x : Str} {fa : Addr} (fc : Facts K mg tbl gl) (chk : tbl.all (chkF (tabC tbl gl) (tabT tbl)) = true) (e : tbl[f0]? = some d) (hp : d.ps = [x]) (b : BindsAll d.nm d.st d.ps) (hfa : mg d.nm = some (.ref fa)) (D : DefF K mg d) :
    ∃ fd : FuncData, (∀ (s : Shared) (u : Value), BindsTo s fd ⟨[u], []⟩ [(x, u)]) ∧ ∀ (w : World) (base : Heap), FnG P w K mg base k fa fd [x] (spF K (tabT tbl) (callF tbl fu k) cl f0) := by
  obtain ⟨a, fd, U, hm, hb⟩ := D
  rw [hfa] at hm
  cases hm
  refine ⟨fd, fun s u => ?_, fun w base => ?_⟩
  · obtain ⟨oc, od, kV, doc, pm, an, cdv, ct, osl, rfl, _, _⟩ := U.ex
    have q := b kV doc pm an cdv ct [u] (by rw [hp]; rfl)
    rw [hp] at q
    exact .of_eq q
  · have q := allFn (P := P) (w := w) (base := base) (cl := cl) (fu := fu) fc chk k f0 d e fa fd U
    rw [hp] at q
    exact q
theorem at_w {P : Program} {K : PySem.W.Frag} {mg : Str → Option Value} {k : Nat} {x : Str} {fa : Addr} {sp : Sp} (w : World) (h : ∃ fd : FuncData, (∀ (s : Shared) (u : Value), BindsTo s fd ⟨[u], []⟩ [(x, u)]) ∧ ∀ (w : World) (base : Heap), FnG P w K mg base k fa fd [x] sp) :
    ∃ fd : FuncData, (∀ (s : Shared) (u : Value), BindsTo s fd ⟨[u], []⟩ [(x, u)]) ∧ ∀ base : Heap, K.In base → base.Ns mainGlobals mg → FnG P w K mg base k fa fd [x] sp :=
  let ⟨fd, b, q⟩ := h; ⟨fd, b, fun base _ _ => q w base⟩
end TW

/-! plain words for what trees are worth -/
namespace TW
open PySem PySem.Spec PyProof.Rows L2
def mk (l : List Nat) : Str := ⟨l.toArray⟩
theorem mk_add (a b : List Nat) : mk a ++ mk b = mk (a ++ b) := by
  show Str.append (mk a) (mk b) = _
  unfold mk Str.append
  simp
theorem mk_len (a : List Nat) : (mk a).length = a.length := rfl
theorem mk_cps (a : List Nat) : (mk a).cps.toList = a := rfl
theorem sign_mk (c : Nat) : sign c = mk [c] := rfl
theorem mk_beq (a b : List Nat) : (mk a == mk b) = (a == b) := by
  unfold mk
  by_cases h : a = b
  · subst h; simp
  · have : (a == b) = false := by simpa using h
    rw [this]
    simpa using h
theorem repS_mk (a : List Nat) (n : Int) : repS (mk a) n = mk (List.replicate n.toNat a).flatten := rfl
theorem R_ok_bind {α β : Type} (a : α) (f : α → R β) : (R.ok a).bind f = f a := rfl
theorem ixN_nat {n k : Nat} (h : k < n) : ixN n (k : Int) = some k := by
  unfold ixN
  rw [if_pos (by omega), if_pos (by omega)]
  simp
theorem atI_at {α : Type} {xs : List α} {k : Nat} (h : k < xs.length) : atI xs (k : Int) = some xs[k] := by
  unfold atI
  rw [ixN_nat h]
  simp [h]
theorem idx_lst {xs : List D} {k : Nat} (h : k < xs.length) : idx (.lst xs) (.int k) = .ok xs[k] := by
  simp only [idx, atI_at h]
  rfl
theorem idx_rol {xs : List D} {k : Nat} (h : k < xs.length) : idx (.rol xs) (.int k) = .ok xs[k] := by
  simp only [idx, atI_at h]
  rfl
theorem idx_str {cs : List Nat} {k : Nat} (h : k < cs.length) (hl : cs.length ≤ LIM) : idx (.str (mk cs)) (.int k) = .ok (.str (mk [cs[k]])) := by
  simp only [idx, mk_len, hl, if_true, mk_cps, atI_at h]
  rfl
/-- one statement after another -/
theorem evB_nx {F : Fs} {fu : Nat} {s : Sm} {ss : List Sm} {ρ ρ1 : En} (h : evS F fu s ρ = .ok (.nx ρ1)) : evB F fu (s :: ss) ρ = evB F fu ss ρ1 := by
  simp only [evB, h]
  rfl
theorem evB_rt {F : Fs} {fu : Nat} {s : Sm} {ss : List Sm} {ρ : En} {d : D} (h : evS F fu s ρ = .ok (.rt d)) : evB F fu (s :: ss) ρ = .ok (.rt d) := by
  simp only [evB, h]
  rfl
theorem evB_nil {F : Fs} {fu : Nat} {ρ : En} : evB F fu [] ρ = .ok (.nx ρ) := by simp only [evB]
theorem callF_at {tbl : List Fd} {fu k f : Nat} {d : Fd} {ds : List D} (e : tbl[f]? = some d) (hl : ds.length = d.ps.length) : callF tbl fu (k + 1) f ds = (evB (callF tbl fu k) fu d.body (enter d ds)).bind Ou.res := by
  simp only [callF, e, hl, if_true]
/-- a walk that goes to its end -/
theorem for_inv {tg : Tg} {b : En → R Ou} : ∀ {xs : List D} {ρ : En} (I : Nat → En → Prop), I 0 ρ → (∀ i x ρ, xs[i]? = some x → I i ρ → ∃ ρ1 ρ2, bindT tg x ρ = .ok ρ1 ∧ b ρ1 = .ok (.nx ρ2) ∧ I (i + 1) ρ2) → ∃ ρ', forGo tg b xs ρ = .ok (.nx ρ') ∧ I xs.length ρ'
  | [], ρ, I, h0, _ => ⟨ρ, rfl, h0⟩
  | x :: xs, ρ, I, h0, step => by
    obtain ⟨ρ1, ρ2, e1, e2, h1⟩ := step 0 x ρ rfl h0
    obtain ⟨ρ', e3, h3⟩ := for_inv (tg := tg) (b := b) (xs := xs) (ρ := ρ2) (fun i => I (i + 1)) h1 fun i y ρ e h => step (i + 1) y ρ (by simpa using e) h
    refine ⟨ρ', ?_, h3⟩
    simp only [forGo, e1, e2, R.bind, Ou.turn]
    exact e3
/-- a walk that may end by a return -/
theorem for_ret {tg : Tg} {b : En → R Ou} : ∀ {xs : List D} {ρ : En} (I : Nat → En → Prop) (Q : D → Prop), I 0 ρ → (∀ i x ρ, xs[i]? = some x → I i ρ → ∃ ρ1, bindT tg x ρ = .ok ρ1 ∧ ((∃ ρ2, b ρ1 = .ok (.nx ρ2) ∧ I (i + 1) ρ2) ∨ ∃ d, b ρ1 = .ok (.rt d) ∧ Q d)) →
    (∃ ρ', forGo tg b xs ρ = .ok (.nx ρ') ∧ I xs.length ρ') ∨ ∃ d, forGo tg b xs ρ = .ok (.rt d) ∧ Q d
  | [], ρ, I, Q, h0, _ => .inl ⟨ρ, rfl, h0⟩
  | x :: xs, ρ, I, Q, h0, step => by
    obtain ⟨ρ1, e1, ⟨ρ2, e2, h1⟩ | ⟨d, e2, h1⟩⟩ := step 0 x ρ rfl h0
    · rcases for_ret (tg := tg) (b := b) (xs := xs) (ρ := ρ2) (fun i => I (i + 1)) Q h1 fun i y ρ e h => step (i + 1) y ρ (by simpa using e) h with ⟨ρ', e3, h3⟩ | ⟨d, e3, h3⟩
      · refine .inl ⟨ρ', ?_, h3⟩
        simp only [forGo, e1, e2, R.bind, Ou.turn]
        exact e3
      · refine .inr ⟨d, ?_, h3⟩
        simp only [forGo, e1, e2, R.bind, Ou.turn]
        exact e3
    · refine .inr ⟨d, ?_, h1⟩
      simp only [forGo, e1, e2, R.bind, Ou.turn]
theorem callF_rt {tbl : List Fd} {fu k f : Nat} {d : Fd} {ds : List D} {v : D} (e : tbl[f]? = some d) (hl : ds.length = d.ps.length) (h : evB (callF tbl fu k) fu d.body (enter d ds) = .ok (.rt v)) : callF tbl fu (k + 1) f ds = .ok v := by
  rw [callF_at e hl, h]
  rfl
theorem evB_for {F : Fs} {fu : Nat} {A : List Nat} {tg : Tg} {it : I} {b ss : List Sm} {ρ : En} {r : R Ou} {xs : List D} (J : Nat → En → Prop) (hi : evI F it ρ = .ok xs) (h0 : J 0 ρ)
    (step : ∀ i x ρ, xs[i]? = some x → J i ρ → ∃ ρ1 ρ2, bindT tg x ρ = .ok ρ1 ∧ evB F fu b ρ1 = .ok (.nx ρ2) ∧ J (i + 1) ρ2) (fin : ∀ ρ', J xs.length ρ' → evB F fu ss ρ' = r) : evB F fu (.for A tg it b :: ss) ρ = r := by
  obtain ⟨ρ', e, h⟩ := for_inv (tg := tg) (b := evB F fu b) J h0 step
  rw [evB_nx (ρ1 := ρ') (by simp only [evS, hi, R.bind]; exact e)]
  exact fin ρ' h
theorem evB_forR {F : Fs} {fu : Nat} {A : List Nat} {tg : Tg} {it : I} {b ss : List Sm} {ρ : En} {r : R Ou} {xs : List D} (J : Nat → En → Prop) (Q : D → Prop) (hi : evI F it ρ = .ok xs) (h0 : J 0 ρ)
    (step : ∀ i x ρ, xs[i]? = some x → J i ρ → ∃ ρ1, bindT tg x ρ = .ok ρ1 ∧ ((∃ ρ2, evB F fu b ρ1 = .ok (.nx ρ2) ∧ J (i + 1) ρ2) ∨ ∃ d, evB F fu b ρ1 = .ok (.rt d) ∧ Q d)) (fin : ∀ ρ', J xs.length ρ' → evB F fu ss ρ' = r) (ret : ∀ d, Q d → r = .ok (.rt d)) :
    evB F fu (.for A tg it b :: ss) ρ = r := by
  rcases for_ret (tg := tg) (b := evB F fu b) J Q h0 step with ⟨ρ', e, h⟩ | ⟨d, e, h⟩
  · rw [evB_nx (ρ1 := ρ') (by simp only [evS, hi, R.bind]; exact e)]
    exact fin ρ' h
  · rw [evB_rt (d := d) (by simp only [evS, hi, R.bind]; exact e), ret d h]
theorem rngL_len (n : Nat) : (rngL 0 n).length = n := by simp [rngL]
theorem rngL_get {n i : Nat} {x : D} (h : (rngL 0 n)[i]? = some x) : i < n ∧ x = .int i := by
  have hi : i < n := by
    have := (List.getElem?_eq_some_iff.mp h).1
    simpa [rngL] using this
  refine ⟨hi, ?_⟩
  unfold rngL at h
  rw [Int.sub_zero, Int.toNat_natCast, List.getElem?_map, List.getElem?_range hi] at h
  simpa using h.symm
theorem enumL_at {xs : List D} {i : Nat} {x : D} (h : (enumL xs)[i]? = some x) : ∃ y, xs[i]? = some y ∧ x = .tup [.int i, y] := by
  unfold enumL at h
  rw [List.getElem?_map, List.getElem?_zipIdx] at h
  cases e : xs[i]? with
  | none => rw [e] at h; cases h
  | some y => rw [e] at h; exact ⟨y, rfl, by simpa using h.symm⟩
theorem enumL_ln (xs : List D) : (enumL xs).length = xs.length := by simp [enumL]
/-- a comprehension whose turns all end -/
theorem lc_of {f : D → R (Option D)} {g : D → Option D} : ∀ {xs : List D}, (∀ x ∈ xs, f x = .ok (g x)) → xs.length ≤ LIM → lcGo f xs = .ok (xs.filterMap g)
  | [], _, _ => rfl
  | x :: xs, h, hl => by
    have ih := lc_of (fun y hy => h y (List.mem_cons_of_mem _ hy)) (Nat.le_trans (Nat.le_succ _) hl)
    simp only [lcGo, h x List.mem_cons_self, R.nox, R.bind, ih, List.filterMap_cons]
    cases g x with
    | none => rfl
    | some y =>
      have : (xs.filterMap g).length < LIM := Nat.lt_of_le_of_lt (List.length_filterMap_le _ _) hl
      simp only [this, if_true]
theorem bl_eqv (a b : Bool) : D.eqv (.bl a) (.bl b) = (a == b) := rfl
theorem int_eqv (a b : Int) : D.eqv (.int a) (.int b) = (a == b) := rfl
theorem str_eqv (a b : List Nat) : D.eqv (.str (mk a)) (.str (mk b)) = (a == b) := mk_beq a b
theorem ints_eqv : ∀ (a b : List Int), D.eqvL (a.map D.int) (b.map D.int) = (a == b)
  | [], [] => rfl
  | [], _ :: _ => rfl
  | _ :: _, [] => rfl
  | x :: xs, y :: ys => by
    simp only [List.map_cons, D.eqvL, ints_eqv xs ys, int_eqv]
    rfl
theorem inD_ints (i : Int) (xs : List Int) : inD (.int i) (.lst (xs.map .int)) = .ok (decide (i ∈ xs)) := by
  have k : D.okL 60 (xs.map D.int) = true := by
    induction xs with
    | nil => rfl
    | cons x xs ih => simp [D.okL, D.okD, ih]
  simp only [inD, D.okD, k, Bool.and_self, if_true]
  congr 1
  induction xs with
  | nil => rfl
  | cons x xs ih =>
    have k' : D.okL 60 (xs.map D.int) = true := by simpa [D.okL, D.okD] using k
    simp only [List.map_cons, List.any_cons, ih k', int_eqv, List.mem_cons]
    by_cases e : i = x
    · simp [e]
    · have e' : (x == i) = false := by simpa using fun z => e z.symm
      simp [e, e']
/-! ### by values -/
theorem seq_nx (ρ : En) (f : En → R Ou) : (Ou.nx ρ).seq f = f ρ := rfl
theorem seq_rt (d : D) (f : En → R Ou) : (Ou.rt d).seq f = .ok (.rt d) := rfl
theorem seq_bk (ρ : En) (f : En → R Ou) : (Ou.bk ρ).seq f = .ok (.bk ρ) := rfl
theorem res_rt (d : D) : (Ou.rt d).res = .ok d := rfl
theorem res_nx (ρ : En) : (Ou.nx ρ).res = .ok .non := rfl
theorem lk_0 (d : D) (ρ : En) : lk (some d :: ρ) 0 = .ok d := rfl
theorem lk_s (o : Option D) (ρ : En) (i : Nat) : lk (o :: ρ) (i + 1) = lk ρ i := rfl
theorem asL_lst (xs : List D) : asL (.lst xs) = .ok xs := rfl
theorem tru_bl (b : Bool) : tru (.bl b) = .ok b := rfl
theorem tru_int (i : Int) : tru (.int i) = .ok (i != 0) := rfl
theorem cd_non : C.d .non = .non := rfl
theorem cd_bl (b : Bool) : C.d (.bl b) = .bl b := rfl
theorem cd_int (i : Int) : C.d (.int i) = .int i := rfl
theorem cd_str (x : Str) : C.d (.str x) = .str x := rfl
theorem ceq_str (x y : List Nat) : cmp .eq (.str (mk x)) (.str (mk y)) = .ok (.bl (x == y)) := by
  simp only [cmp, flat, Bool.and_self, Bool.true_or, R.iff, if_true, str_eqv]
theorem cne_str (x y : List Nat) : cmp .ne (.str (mk x)) (.str (mk y)) = .ok (.bl (!(x == y))) := by
  simp only [cmp, flat, Bool.and_self, Bool.true_or, R.iff, if_true, str_eqv]
theorem ceq_int (x y : Int) : cmp .eq (.int x) (.int y) = .ok (.bl (x == y)) := by
  simp only [cmp, flat, Bool.and_self, Bool.true_or, R.iff, if_true, int_eqv]
theorem cne_int (x y : Int) : cmp .ne (.int x) (.int y) = .ok (.bl (!(x == y))) := by
  simp only [cmp, flat, Bool.and_self, Bool.true_or, R.iff, if_true, int_eqv]
theorem ceq_bl (x y : Bool) : cmp .eq (.bl x) (.bl y) = .ok (.bl (x == y)) := by
  simp only [cmp, flat, Bool.and_self, Bool.true_or, R.iff, if_true, bl_eqv]
theorem cne_bl (x y : Bool) : cmp .ne (.bl x) (.bl y) = .ok (.bl (!(x == y))) := by
  simp only [cmp, flat, Bool.and_self, Bool.true_or, R.iff, if_true, bl_eqv]
theorem clt_int (x y : Int) : cmp .lt (.int x) (.int y) = .ok (.bl (decide (x < y))) := rfl
theorem cle_int (x y : Int) : cmp .le (.int x) (.int y) = .ok (.bl (decide (x ≤ y))) := rfl
theorem cgt_int (x y : Int) : cmp .gt (.int x) (.int y) = .ok (.bl (decide (y < x))) := rfl
theorem cge_int (x y : Int) : cmp .ge (.int x) (.int y) = .ok (.bl (decide (y ≤ x))) := rfl
theorem okL_ints : ∀ (xs : List Int) (n : Nat), D.okL n (xs.map D.int) = true
  | [], _ => rfl
  | x :: xs, n => by simp [D.okL, D.okD, okL_ints xs n]
theorem ceq_ints (x y : List Int) : cmp .eq (.lst (x.map .int)) (.lst (y.map .int)) = .ok (.bl (x == y)) := by
  have e : D.eqv (.lst (x.map .int)) (.lst (y.map .int)) = (x == y) := ints_eqv x y
  simp only [cmp, R.iff, D.okD, okL_ints, e, Bool.and_self, Bool.or_true, if_true, Nat.reduceLeDiff, decide_true]
  simp
theorem badd_int (x y : Int) : bin .add (.int x) (.int y) = .ok (.int (x + y)) := rfl
theorem bsub_int (x y : Int) : bin .sub (.int x) (.int y) = .ok (.int (x - y)) := rfl
theorem badd_str (x y : List Nat) (h : x.length + y.length ≤ LIM) : bin .add (.str (mk x)) (.str (mk y)) = .ok (.str (mk (x ++ y))) := by
  simp only [bin, mk_len, R.iff, h, decide_true, if_true, mk_add]
theorem badd_lst (x y : List D) (h : x.length + y.length ≤ LIM) : bin .add (.lst x) (.lst y) = .ok (.lst (x ++ y)) := by
  simp only [bin, R.iff, h, decide_true, if_true]
theorem bmul_str (x : List Nat) (n : Nat) (h1 : n ≤ LIM) (h2 : x.length * n ≤ LIM) : bin .mul (.str (mk x)) (.int n) = .ok (.str (mk (List.replicate n x).flatten)) := by
  have a : -B62 ≤ (n : Int) ∧ (n : Int) < B62 := by unfold B62; unfold LIM at h1; omega
  simp only [bin, mk_len, R.iff, a, Int.toNat_natCast, h2, decide_true, Bool.and_self, if_true, repS_mk, and_self]
theorem bmul_int (x y : Int) (h : (-B64 < x ∧ x < B64) ∨ (-B64 < y ∧ y < B64)) : bin .mul (.int x) (.int y) = .ok (.int (x * y)) := by
  have : (decide (-B64 < x ∧ x < B64) || decide (-B64 < y ∧ y < B64)) = true := by simpa using h
  simp only [bin, R.iff, this, if_true]
theorem bmod_int (x y : Int) (h : y ≠ 0) : bin .mod (.int x) (.int y) = .ok (.int (x.fmod y)) := by
  simp only [bin, R.iff, h, ne_eq, not_false_eq_true, decide_true, if_true]
theorem bdiv_int (x y : Int) (h : y ≠ 0 ∧ y.natAbs < 1073741824) : bin .fdiv (.int x) (.int y) = .ok (.int (x.fdiv y)) := by
  simp only [bin, R.iff, h, ne_eq, not_false_eq_true, and_self, decide_true, if_true]
theorem len_str (x : List Nat) (h : x.length ≤ LIM) : call1 .len (.str (mk x)) = .ok (.int x.length) := by
  simp only [call1, mk_len, h, if_true]
theorem len_lst (x : List D) : call1 .len (.lst x) = .ok (.int x.length) := rfl
theorem len_rol (x : List D) : call1 .len (.rol x) = .ok (.int x.length) := rfl
theorem abs_int (x : Int) : call1 .abs (.int x) = .ok (.int (if x < 0 then -x else x)) := rfl
theorem int_int (x : Int) : call1 .int (.int x) = .ok (.int x) := rfl
theorem int_bl (x : Bool) : call1 .int (.bl x) = .ok (.int (if x then 1 else 0)) := rfl
theorem in_tup_str (x : List Nat) (ys : List (List Nat)) : inD (.str (mk x)) (.tup (ys.map fun y => .str (mk y))) = .ok (decide (x ∈ ys)) := by
  have f : (ys.map fun y => D.str (mk y)).all flat = true := by simp [flat]
  simp only [inD, flat, f, Bool.and_self, if_true]
  congr 1
  induction ys with
  | nil => rfl
  | cons y ys ih =>
    have f' : (ys.map fun y => D.str (mk y)).all flat = true := by simp [flat]
    simp only [List.map_cons, List.any_cons, ih f', str_eqv, List.mem_cons]
    by_cases e : x = y
    · simp [e]
    · have e' : (y == x) = false := by simpa using fun z => e z.symm
      simp [e, e']
theorem in_str (c : Nat) (ys : List Nat) : inD (.str (mk [c])) (.str (mk ys)) = .ok (decide (c ∈ ys)) := rfl
theorem cin_map (a b : D) : cmp .isIn a b = (inD a b).map .bl := rfl
theorem cnin_map (a b : D) : cmp .notIn a b = (inD a b).map fun c => .bl (!c) := rfl
theorem R_ok_map {α β : Type} (f : α → β) (a : α) : (R.ok a).map f = .ok (f a) := rfl
theorem lim_le {n : Nat} (h : n ≤ 16777216) : n ≤ LIM := h
theorem rngD_nat (n : Nat) (h : n ≤ 16777216) : rngD [.int n] = .ok (rngL 0 n) := by
  unfold rngD
  exact if_pos ⟨by unfold B62; omega, by unfold B62; omega⟩
theorem rngD_two (a n : Nat) (ha : a ≤ 16777216) (h : n ≤ 16777216) : rngD [.int a, .int n] = .ok (rngL a n) := by
  unfold rngD
  exact if_pos ⟨by unfold B62; omega, by unfold B62; omega, by unfold B62; omega, by unfold B62; omega⟩
theorem lc_ev {F : Fs} {own : List Nat} {tg : Tg} {it : I} {ifs : L} {e : E} {ρ : En} {xs : List D} (g : D → Option D) (hi : evI F it ρ = .ok xs)
    (h : ∀ x ∈ xs, ((bindT tg x (wipeE ρ own)).bind fun ρ' => (evIfs F ifs ρ').bind fun k => if k then (evE F e ρ').bind fun y => .ok (some y) else .ok none) = .ok (g x)) (hl : xs.length ≤ 16777216) : evE F (.lc own tg it ifs e) ρ = .ok (.lst (xs.filterMap g)) := by
  have q := lc_of h hl
  simp only [evE, hi, R.bind] at q ⊢
  rw [q]
theorem evB_ret {F : Fs} {fu : Nat} {e : E} {ss : List Sm} {ρ : En} {d : D} (h : evE F e ρ = .ok d) : evB F fu (.ret e :: ss) ρ = .ok (.rt d) := evB_rt (by simp only [evS, h, R.bind])
theorem evB_asg {F : Fs} {fu i : Nat} {e : E} {ss : List Sm} {ρ : En} {d : D} (h : evE F e ρ = .ok d) : evB F fu (.asg i e :: ss) ρ = evB F fu ss (ρ.set i (some d)) := evB_nx (by simp only [evS, h, R.bind])
theorem evB_lv {F : Fs} {fu : Nat} {A : List Nat} {ss : List Sm} {ρ : En} : evB F fu (.lv A :: ss) ρ = evB F fu ss ρ := evB_nx (by simp only [evS])
theorem evB_skip {F : Fs} {fu : Nat} {c : E} {a ss : List Sm} {ρ : En} (h : evE F c ρ = .ok (.bl false)) : evB F fu (.ite c a [] :: ss) ρ = evB F fu ss ρ := evB_nx (by simp only [evS, h, R.bind, tru, evB]; rfl)
theorem evE_fn {F : Fs} {f : Nat} {x : Str} {es : L} {ρ : En} {ds : List D} (h : evL F es ρ = .ok ds) : evE F (.fn f x es) ρ = F f ds := by simp only [evE, h, R.bind]
theorem rngL1_get {n i : Nat} {x : D} (h : (rngL 1 n)[i]? = some x) : i + 1 < n ∧ x = .int ((i + 1 : Nat) : Int) := by
  unfold rngL at h
  rw [List.getElem?_map] at h
  cases e : (List.range ((n : Int) - 1).toNat)[i]? with
  | none => rw [e] at h; cases h
  | some k =>
    obtain ⟨h1, h2⟩ := List.getElem?_eq_some_iff.mp e
    rw [List.length_range] at h1
    rw [List.getElem_range] at h2
    subst h2
    rw [e] at h
    have h : D.int (1 + (i : Int)) = x := by simpa using h
    subst h
    exact ⟨by omega, by congr 1; omega⟩
theorem cut_take {xs : List D} {n : Nat} (h : n ≤ xs.length) : cutL xs none (some (n : Int)) = xs.take n := by
  unfold cutL
  rw [HT.sIx_none, HT.sIx_nat, Nat.min_eq_left h]
  simp
theorem cut_drop {xs : List D} {n : Nat} (h : n ≤ xs.length) : cutL xs (some (n : Int)) none = xs.drop n := by
  unfold cutL
  rw [HT.sIx_none, HT.sIx_nat, Nat.min_eq_left h]
  rw [List.take_of_length_le (by rw [List.length_drop]; exact Nat.le_refl _)]
theorem rngD_one (n : Nat) (h : n ≤ 16777216) : rngD [.int 1, .int n] = .ok (rngL 1 n) := by
  unfold rngD
  exact if_pos ⟨by unfold B62; omega, by unfold B62; omega, by unfold B62; omega, by unfold B62; omega⟩
theorem whGo_t {t : En → R Bool} {b : En → R Ou} {n : Nat} {ρ ρ' : En} (ht : t ρ = .ok true) (hb : b ρ = .ok (.nx ρ')) : whGo t b (n + 1) ρ = whGo t b n ρ' := by
  rw [whGo, ht, R_ok_bind, if_pos rfl, hb, R_ok_bind]
  rfl
theorem whGo_f {t : En → R Bool} {b : En → R Ou} {n : Nat} {ρ : En} (ht : t ρ = .ok false) : whGo t b (n + 1) ρ = .ok (.nx ρ) := by
  rw [whGo, ht, R_ok_bind, if_neg (by decide)]
theorem evS_forE {F : Fs} {fu : Nat} {A : List Nat} {tg : Tg} {it : I} {b : List Sm} {ρ : En} {xs : List D} (hi : evI F it ρ = .ok xs) : evS F fu (.for A tg it b) ρ = forGo tg (evB F fu b) xs ρ := by
  simp only [evS, hi, R.bind]
theorem evS_whE {F : Fs} {fu : Nat} {A : List Nat} {c : E} {b : List Sm} {ρ : En} : evS F fu (.wh A c b) ρ = whGo (fun ρ => (evE F c ρ).bind tru) (evB F fu b) fu ρ := by
  simp only [evS]
theorem evB_forP {P : R Ou → Prop} {F : Fs} {fu : Nat} {A : List Nat} {tg : Tg} {it : I} {b ss : List Sm} {ρ : En} {xs : List D} (J : Nat → En → Prop) (hi : evI F it ρ = .ok xs) (h0 : J 0 ρ)
    (step : ∀ i x ρ, xs[i]? = some x → J i ρ → ∃ ρ1 ρ2, bindT tg x ρ = .ok ρ1 ∧ evB F fu b ρ1 = .ok (.nx ρ2) ∧ J (i + 1) ρ2) (fin : ∀ ρ', J xs.length ρ' → P (evB F fu ss ρ')) : P (evB F fu (.for A tg it b :: ss) ρ) := by
  obtain ⟨ρ', e, h⟩ := for_inv (tg := tg) (b := evB F fu b) J h0 step
  rw [evB_nx ((evS_forE hi).trans e)]
  exact fin ρ' h
end TW

namespace TW
namespace K04
open PySem PySem.Spec PyProof.Rows L2
def top (i : Nat) : Stmt := PySem.Challenge.pw_printstack_k04_whole_brackets_without_a.main.body.getD i (.Pass ⟨0, 0, 0, 0⟩)
/-- bracket_places -/
def b_bracket_places : List Sm := [
  .asg 1 (.lst .nil),
  .asg 2 (.cst (.bl false)),
  .for [0, 1, 99, 0, 0] (.t [3, 4]) (.enum (.var 0)) [.ite (.cmp .eq (.var 4) (.cst (.str ";"))) [.asg 2 (.cst (.bl true))] [], .ite (.cmp .eq (.var 4) (.cst (.str "\n"))) [.asg 2 (.cst (.bl false))] [], .ite (.and (.not (.var 2)) (.cons (.cmp .isIn (.var 4) (.tup (.cons (.glb "OPEN" (.str "{")) (.cons (.glb "CLOSE" (.str "}")) .nil)))) .nil)) [.app 1 (.var 3)] []],
  .ret (.var 1)]
def d_bracket_places : Fd := { nm := "bracket_places", st := top 3, N := ["text", "found", "remark", "place", "char"], ps := ["text"], rl := 1, body := b_bracket_places }
/-- loose -/
def b_loose : List Sm := [
  .asg 1 (.lst .nil),
  .asg 2 (.lst .nil),
  .for [0, 1, 1, 0] (.v 3) (.it (.fn 0 "bracket_places" (.cons (.var 0) .nil))) [.ite (.cmp .eq (.idx (.var 0) (.var 3)) (.glb "OPEN" (.str "{"))) [.app 1 (.var 3)] [.ite (.cmp .gt (.c1 .len (.var 1)) (.cst (.int 0))) [.pop 1] [.app 2 (.var 3)]]],
  .ret (.bin .add (.var 2) (.var 1))]
def d_loose : Fd := { nm := "loose", st := top 4, N := ["text", "waiting", "found", "place"], ps := ["text"], rl := 1, body := b_loose }
/-- struck -/
def b_struck : List Sm := [
  .asg 1 (.fn 1 "loose" (.cons (.var 0) .nil)),
  .ret (.mth .join (.cst (.str "")) (.lc [2, 3] (.t [2, 3]) (.enum (.var 0)) (.cons (.cmp .notIn (.var 2) (.var 1)) .nil) (.var 3)))]
def d_struck : Fd := { nm := "struck", st := top 5, N := ["text", "left_out", "place", "char"], ps := ["text"], rl := 99, body := b_struck }
/-- closed -/
def b_closed : List Sm := [
  .asg 1 (.fn 1 "loose" (.cons (.var 0) .nil)),
  .asg 2 (.c1 .len (.lc [5] (.v 5) (.it (.var 1)) (.cons (.cmp .eq (.idx (.var 0) (.var 5)) (.glb "CLOSE" (.str "}"))) .nil) (.cst (.int 1)))),
  .asg 3 (.bin .sub (.c1 .len (.var 1)) (.var 2)),
  .lv [0, 1, 1, 99, 0, 0],
  .asg 4 (.bin .add (.bin .mul (.glb "OPEN" (.str "{")) (.var 2)) (.var 0)),
  .lv [0, 1, 1, 1, 0, 0],
  .ret (.ife (.cmp .gt (.var 3) (.cst (.int 0))) (.bin .add (.bin .add (.var 4) (.cst (.str "\n"))) (.bin .mul (.glb "CLOSE" (.str "}")) (.var 3))) (.var 4))]
def d_closed : Fd := { nm := "closed", st := top 6, N := ["text", "told", "ends", "more", "found", "place"], ps := ["text"], rl := 0, body := b_closed }
/-- _law_draws -/
def b_law_draws : List Sm := [
  .asg 1 (.lst .nil),
  .for [0, 99, 0, 0, 0, 0] (.v 2) (.rg1 (.c2 .min (.cst (.int 63)) (.c1 .len (.var 0)))) [.asg 3 (.c1 .abs (.idx (.var 0) (.var 2))), .ite (.cmp .ge (.var 3) (.bin .pow (.cst (.int 10)) (.cst (.int 18)))) [.for [0, 99, 0, 99, 0, 0] (.v 4) (.rg1 (.cst (.int 60))) [.ite (.cmp .gt (.var 3) (.cst (.int 0))) [.app 1 (.bin .mod (.c1 .int (.var 3)) (.cst (.int 65536))), .asg 3 (.bin .fdiv (.var 3) (.cst (.int 65536)))] []]] [.asg 5 (.bin .mod (.c1 .int (.bin .add (.bin .mul (.var 3) (.cst (.int 48271))) (.bin .mul (.bin .add (.var 2) (.cst (.int 1))) (.cst (.int 69621))))) (.cst (.int 2147483647))), .asg 5 (.bin .mod (.c1 .int (.bin .add (.bin .add (.bin .mul (.var 5) (.cst (.int 16807))) (.bin .mul (.cst (.int 11)) (.var 2))) (.cst (.int 5)))) (.cst (.int 2147483629))), .app 1 (.bin .mod (.c1 .int (.var 5)) (.cst (.int 65536))), .app 1 (.bin .mod (.c1 .int (.bin .fdiv (.var 5) (.cst (.int 65536)))) (.cst (.int 32768)))]],
  .ret (.var 1)]
def d_law_draws : Fd := { nm := "_law_draws", st := top 8, N := ["script", "draws", "k", "rest", "turn", "mixed"], ps := ["script"], rl := 99, body := b_law_draws }
/-- _law_mix -/
def b_law_mix : List Sm := [
  .asg 3 (.cst (.int 0)),
  .ite (.cmp .gt (.c1 .len (.var 0)) (.cst (.int 0))) [.asg 3 (.idx (.var 0) (.bin .mod (.c1 .int (.var 1)) (.c1 .len (.var 0))))] [],
  .ite (.cmp .lt (.var 1) (.c1 .len (.var 0))) [.ret (.bin .mod (.c1 .int (.var 3)) (.var 2))] [],
  .ret (.bin .mod (.c1 .int (.bin .fdiv (.c1 .int (.bin .add (.bin .mul (.var 3) (.cst (.int 7919))) (.bin .mul (.var 1) (.cst (.int 104729))))) (.cst (.int 3)))) (.var 2))]
def d_law_mix : Fd := { nm := "_law_mix", st := top 9, N := ["draws", "k", "many", "cell"], ps := ["draws", "k", "many"], rl := 99, body := b_law_mix }
/-- _law_places -/
def b_law_places : List Sm := [
  .asg 1 (.lst .nil),
  .asg 2 (.cst (.bl false)),
  .for [0, 1, 99, 0] (.v 3) (.rg1 (.c1 .len (.var 0))) [.ite (.cmp .eq (.idx (.var 0) (.var 3)) (.cst (.str ";"))) [.asg 2 (.cst (.bl true))] [], .ite (.cmp .eq (.idx (.var 0) (.var 3)) (.cst (.str "\n"))) [.asg 2 (.cst (.bl false))] [], .ite (.and (.cmp .isIn (.idx (.var 0) (.var 3)) (.cst (.str "{}"))) (.cons (.not (.var 2)) .nil)) [.app 1 (.var 3)] []],
  .ret (.var 1)]
def d_law_places : Fd := { nm := "_law_places", st := top 10, N := ["text", "found", "remark", "k"], ps := ["text"], rl := 1, body := b_law_places }
/-- _law_fits -/
def b_law_fits : List Sm := [
  .asg 1 (.cst (.int 0)),
  .for [0, 1, 0] (.v 2) (.it (.fn 6 "_law_places" (.cons (.var 0) .nil))) [.asg 1 (.bin .add (.var 1) (.idx (.lst (.cons (.cst (.int 1)) (.cons (.neg (.cst (.int 1))) .nil))) (.c1 .int (.cmp .eq (.idx (.var 0) (.var 2)) (.cst (.str "}")))))), .ite (.cmp .lt (.var 1) (.cst (.int 0))) [.ret (.cst (.bl false))] []],
  .ret (.cmp .eq (.var 1) (.cst (.int 0)))]
def d_law_fits : Fd := { nm := "_law_fits", st := top 11, N := ["text", "deep", "k"], ps := ["text"], rl := 99, body := b_law_fits }
/-- _law_loose -/
def b_law_loose : List Sm := [
  .asg 1 (.fn 6 "_law_places" (.cons (.var 0) .nil)),
  .asg 2 (.cst (.bl true)),
  .wh [0, 1, 99, 0] (.var 2) [.asg 2 (.cst (.bl false)), .for [0, 1, 99, 0] (.v 3) (.rg2 (.cst (.int 1)) (.c1 .len (.var 1))) [.ite (.and (.not (.var 2)) (.cons (.cmp .eq (.idx (.var 0) (.idx (.var 1) (.bin .sub (.var 3) (.cst (.int 1))))) (.cst (.str "{"))) (.cons (.cmp .eq (.idx (.var 0) (.idx (.var 1) (.var 3))) (.cst (.str "}"))) .nil))) [.asg 1 (.bin .add (.slc (.var 1) .no (.so (.bin .sub (.var 3) (.cst (.int 1))))) (.slc (.var 1) (.so (.bin .add (.var 3) (.cst (.int 1)))) .no)), .asg 2 (.cst (.bl true))] []]],
  .ret (.var 1)]
def d_law_loose : Fd := { nm := "_law_loose", st := top 12, N := ["text", "left", "changed", "t"], ps := ["text"], rl := 1, body := b_law_loose }
/-- law -/
def b_law : List Sm := [
  .asg 1 (.fn 4 "_law_draws" (.cons (.var 0) .nil)),
  .for [0, 99, 0, 0, 0, 0, 0, 0, 0, 0, 0, 0, 0, 0] (.v 2) (.rg1 (.cst (.int 6))) [.asg 3 (.cst (.str "")), .for [0, 99, 0, 1, 0, 0, 0, 0, 0, 0, 0, 0, 0, 0] (.v 4) (.rg1 (.fn 5 "_law_mix" (.cons (.var 1) (.cons (.bin .add (.cst (.int 10)) (.var 2)) (.cons (.cst (.int 13)) .nil))))) [.asg 3 (.bin .add (.var 3) (.idx (.cst (.str "{}{}{}a;\n ")) (.fn 5 "_law_mix" (.cons (.var 1) (.cons (.bin .add (.bin .add (.cst (.int 20)) (.bin .mul (.cst (.int 14)) (.var 2))) (.var 4)) (.cons (.cst (.int 10)) .nil))))))], .lv [0, 99, 0, 0, 0, 0, 0, 0, 0, 0, 0, 0, 0, 0], .asg 5 (.fn 1 "loose" (.cons (.var 3) .nil)), .ite (.cmp .ne (.c1 .repr (.var 5)) (.c1 .repr (.fn 8 "_law_loose" (.cons (.var 3) .nil)))) [.ret (.cst (.bl false))] [], .asg 6 (.cst (.str "")), .for [0, 99, 0, 0, 0, 1, 1, 0, 0, 0, 0, 0, 0, 0] (.v 7) (.rg1 (.c1 .len (.var 3))) [.ite (.cmp .notIn (.var 7) (.var 5)) [.asg 6 (.bin .add (.var 6) (.idx (.var 3) (.var 7)))] []], .ite (.or (.cmp .ne (.c1 .repr (.fn 2 "struck" (.cons (.var 3) .nil))) (.c1 .repr (.var 6))) (.cons (.not (.fn 7 "_law_fits" (.cons (.fn 2 "struck" (.cons (.var 3) .nil)) .nil))) .nil)) [.ret (.cst (.bl false))] [], .asg 8 (.c1 .len (.lc [7] (.v 7) (.it (.var 5)) (.cons (.cmp .eq (.idx (.var 3) (.var 7)) (.cst (.str "}"))) .nil) (.var 7))), .asg 9 (.bin .sub (.c1 .len (.var 5)) (.var 8)), .ite (.or (.cmp .ne (.fn 3 "closed" (.cons (.var 3) .nil)) (.bin .add (.bin .add (.bin .mul (.cst (.str "{")) (.var 8)) (.var 3)) (.bin .mul (.bin .add (.cst (.str "\n")) (.bin .mul (.cst (.str "}")) (.var 9))) (.c1 .int (.cmp .gt (.var 9) (.cst (.int 0))))))) (.cons (.not (.fn 7 "_law_fits" (.cons (.fn 3 "closed" (.cons (.var 3) .nil)) .nil))) .nil)) [.ret (.cst (.bl false))] [], .asg 10 (.fn 6 "_law_places" (.cons (.var 3) .nil)), .asg 11 (.lst (.cons (.lst .nil) .nil)), .lv [0, 99, 0, 0, 0, 1, 1, 0, 99, 99, 0, 99, 0, 0], .for [0, 99, 0, 0, 0, 1, 1, 0, 99, 99, 0, 1, 0, 0] (.v 7) (.it (.var 10)) [.asg 11 (.bin .add (.var 11) (.lc [12] (.v 12) (.it (.var 11)) (.cons (.cmp .lt (.c1 .len (.var 12)) (.bin .sub (.c1 .len (.var 5)) (.cst (.int 1)))) .nil) (.bin .add (.var 12) (.lst (.cons (.var 7) .nil)))))], .lv [0, 99, 0, 0, 0, 1, 1, 0, 99, 99, 0, 0, 0, 0], .for [0, 99, 0, 0, 0, 1, 1, 0, 99, 99, 0, 0, 0, 0] (.v 12) (.it (.var 11)) [.ite (.cmp .lt (.c1 .len (.var 12)) (.c1 .len (.var 5))) [.asg 13 (.cst (.str "")), .for [0, 99, 0, 0, 0, 1, 1, 0, 99, 99, 0, 0, 0, 1] (.v 7) (.rg1 (.c1 .len (.var 3))) [.ite (.cmp .notIn (.var 7) (.var 12)) [.asg 13 (.bin .add (.var 13) (.idx (.var 3) (.var 7)))] []], .ite (.fn 7 "_law_fits" (.cons (.var 13) .nil)) [.ret (.cst (.bl false))] []] []], .ite (.cmp .ne (.cmp .eq (.var 5) (.lst .nil)) (.fn 7 "_law_fits" (.cons (.var 3) .nil))) [.ret (.cst (.bl false))] []],
  .ret (.cst (.bl true))]
def d_law : Fd := { nm := "law", st := top 13, N := ["script", "draws", "turn", "text", "t", "told", "due", "k", "ends", "more", "places", "lists", "one", "rest"], ps := ["script"], rl := 99, body := b_law }
def tbl : List Fd := [d_bracket_places, d_loose, d_struck, d_closed, d_law_draws, d_law_mix, d_law_places, d_law_fits, d_law_loose, d_law]
def gls : List (Str × C) := [("CLOSE", (.str "}")), ("OPEN", (.str "{"))]
theorem chk : tbl.all (chkF (tabC tbl gls) (tabT tbl)) = true := by decide +kernel
end K04
end TW

/-! brackets, by themselves -/
namespace TW
namespace K04
abbrev Br := Nat × Bool
def nxt (r : Bool) (c : Nat) : Bool := if c = 10 then false else if c = 59 then true else r
def st (r : Bool) (cs : List Nat) : Bool := cs.foldl nxt r
/-- the brackets outside of remarks: their places; does it close? -/
def pl : Nat → Bool → List Nat → List Br
  | _, _, [] => []
  | n, r, c :: cs => (if nxt r c = false ∧ (c = 123 ∨ c = 125) then [(n, decide (c = 125))] else []) ++ pl (n + 1) (nxt r c) cs
theorem pl_app : ∀ (a b : List Nat) (n : Nat) (r : Bool), pl n r (a ++ b) = pl n r a ++ pl (n + a.length) (st r a) b
  | [], b, n, r => rfl
  | c :: a, b, n, r => by
    simp only [List.cons_append, pl, pl_app a b, List.append_assoc, List.length_cons, st, List.foldl_cons]
    rw [show n + 1 + a.length = n + (a.length + 1) by omega]
theorem st_app (a b : List Nat) (r : Bool) : st r (a ++ b) = st (st r a) b := List.foldl_append
theorem pl_ge : ∀ (cs : List Nat) (n : Nat) (r : Bool) (x : Br), x ∈ pl n r cs → n ≤ x.1 ∧ x.1 < n + cs.length ∧ cs[x.1 - n]? = some (if x.2 then 125 else 123)
  | [], _, _, _, h => by cases h
  | c :: cs, n, r, x, h => by
    simp only [pl, List.mem_append] at h
    rcases h with h | h
    · split at h
      · rename_i q
        simp only [List.mem_singleton] at h
        subst h
        refine ⟨Nat.le_refl _, by simp, ?_⟩
        simp only [Nat.sub_self, List.getElem?_cons_zero]
        rcases q.2 with e | e <;> subst e <;> simp
      · cases h
    · obtain ⟨h1, h2, h3⟩ := pl_ge cs (n + 1) _ x h
      refine ⟨by omega, by simp only [List.length_cons]; omega, ?_⟩
      rw [show x.1 - n = (x.1 - (n + 1)) + 1 by omega, List.getElem?_cons_succ]
      exact h3
theorem pl_sorted : ∀ (cs : List Nat) (n : Nat) (r : Bool), (pl n r cs).Pairwise (fun a b => a.1 < b.1)
  | [], _, _ => .nil
  | c :: cs, n, r => by
    simp only [pl]
    refine List.pairwise_append.mpr ⟨?_, pl_sorted cs (n + 1) _, fun a ha b hb => ?_⟩
    · split
      · exact List.pairwise_singleton _ _
      · exact .nil
    · split at ha
      · simp only [List.mem_singleton] at ha
        subst ha
        exact Nat.lt_of_lt_of_le (Nat.lt_succ_self n) (pl_ge cs (n + 1) _ b hb).1
      · cases ha
theorem pl_len : ∀ (cs : List Nat) (n : Nat) (r : Bool), (pl n r cs).length ≤ cs.length
  | [], _, _ => Nat.le_refl _
  | c :: cs, n, r => by
    have := pl_len cs (n + 1) (nxt r c)
    simp only [pl, List.length_append, List.length_cons]
    split <;> simp <;> omega
/-- how many are without a match, o being open -/
def total : Nat → List Bool → Nat
  | o, [] => o
  | o, false :: l => total (o + 1) l
  | 0, true :: l => 1 + total 0 l
  | o + 1, true :: l => total o l
theorem total_step : ∀ (l : List Bool) (o : Nat), total o l ≤ total (o + 1) l + 1 ∧ total (o + 1) l ≤ total o l + 1
  | [], o => by simp only [total]; omega
  | false :: l, o => by simp only [total]; exact total_step l (o + 1)
  | true :: l, 0 => by simp only [total]; omega
  | true :: l, o + 1 => by simp only [total]; exact total_step l o
/-- striking one bracket mends one at most -/
theorem total_sub : ∀ {l' l : List Bool}, l'.Sublist l → ∀ o, total o l + l'.length ≤ total o l' + l.length
  | _, _, .slnil, o => by simp [total]
  | l', _, .cons (l₂ := l) x s, o => by
    have ih := total_sub s
    cases x with
    | false =>
      have a := ih o
      have b := (total_step l o).2
      simp only [total, List.length_cons]
      omega
    | true =>
      cases o with
      | zero =>
        have a := ih 0
        simp only [total, List.length_cons]
        omega
      | succ o =>
        have a := ih (o + 1)
        have b := (total_step l o).1
        simp only [total, List.length_cons]
        omega
  | _, _, .cons₂ (l₁ := l') (l₂ := l) x s, o => by
    have ih := total_sub s
    cases x with
    | false => have a := ih (o + 1); simp only [total, List.length_cons]; omega
    | true =>
      cases o with
      | zero => have a := ih 0; simp only [total, List.length_cons]; omega
      | succ o => have a := ih o; simp only [total, List.length_cons]; omega
/-- the program's own way -/
def lo : List Nat → List Nat → List Br → List Nat
  | w, f, [] => f ++ w
  | w, f, (p, false) :: l => lo (w ++ [p]) f l
  | w, f, (p, true) :: l => if w = [] then lo w (f ++ [p]) l else lo w.dropLast f l
abbrev sg (l : List Br) : List Bool := l.map (·.2)
theorem lo_len : ∀ (l : List Br) (w f : List Nat), (lo w f l).length = f.length + total w.length (sg l)
  | [], w, f => by simp [lo, total, sg]
  | (p, false) :: l, w, f => by
    simp only [lo, sg, List.map_cons, total]
    rw [lo_len l]
    simp [sg]
  | (p, true) :: l, w, f => by
    simp only [lo, sg, List.map_cons]
    by_cases h : w = []
    · subst h
      rw [if_pos rfl, lo_len l]
      simp only [List.length_append, List.length_singleton, List.length_nil, total, sg]
      omega
    · rw [if_neg h, lo_len l, List.length_dropLast]
      have : w.length ≠ 0 := fun z => h (List.length_eq_zero_iff.mp z)
      obtain ⟨k, hk⟩ := Nat.exists_eq_succ_of_ne_zero this
      rw [hk]
      rfl
/-- a pair that meets is taken out -/
inductive Red : List Br → List Br → Prop
  | refl (l) : Red l l
  | step {a b u : List Br} {p q : Nat} : Red (a ++ b) u → Red (a ++ (p, false) :: (q, true) :: b) u
theorem lo_app : ∀ (a b c : List Br) (w f : List Nat), (∀ w f, lo w f b = lo w f c) → lo w f (a ++ b) = lo w f (a ++ c)
  | [], b, c, w, f, h => h w f
  | (p, false) :: a, b, c, w, f, h => by
    simp only [List.cons_append, lo]
    exact lo_app a b c _ _ h
  | (p, true) :: a, b, c, w, f, h => by
    simp only [List.cons_append, lo]
    split
    · exact lo_app a b c _ _ h
    · exact lo_app a b c _ _ h
theorem lo_pair (p q : Nat) (b : List Br) (w f : List Nat) : lo w f ((p, false) :: (q, true) :: b) = lo w f b := by
  simp [lo]
theorem lo_red {l u : List Br} (h : Red l u) : lo [] [] l = lo [] [] u := by
  induction h with
  | refl => rfl
  | step _ ih => rw [← ih]; exact lo_app _ _ _ _ _ fun w f => lo_pair _ _ _ w f
theorem total_app : ∀ (a b c : List Bool) (o : Nat), (∀ o, total o b = total o c) → total o (a ++ b) = total o (a ++ c)
  | [], _, _, o, h => h o
  | false :: a, b, c, o, h => by simp only [List.cons_append, total]; exact total_app a b c _ h
  | true :: a, b, c, 0, h => by simp only [List.cons_append, total]; rw [total_app a b c _ h]
  | true :: a, b, c, o + 1, h => by simp only [List.cons_append, total]; exact total_app a b c _ h
/-- what is left, taken out of the whole, leaves what has its match -/
theorem total_red {l u : List Br} (h : Red l u) (nd : (l.map (·.1)).Nodup) (R : List Nat) (hR : ∀ x ∈ u, x.1 ∈ R) (hS : ∀ p ∈ R, ∃ x ∈ u, x.1 = p) : total 0 (sg (l.filter fun x => decide (x.1 ∉ R))) = 0 := by
  induction h with
  | refl l =>
    rw [List.filter_eq_nil_iff.mpr fun x hx => by simpa using hR x hx]
    rfl
  | @step a b u p q h ih =>
    have mem : ∀ {a b u : List Br}, Red (a ++ b) u → ∀ x ∈ u, x ∈ a ++ b := fun {a b u} h => by
      generalize e : a ++ b = l at h
      clear e
      induction h with
      | refl => exact fun x hx => hx
      | step _ ih =>
        intro x hx
        have := ih x hx
        simp only [List.mem_append, List.mem_cons] at this ⊢
        rcases this with z | z
        · exact .inl z
        · exact .inr (.inr (.inr z))
    simp only [List.map_append, List.map_cons] at nd
    have nd2 : ((a ++ b).map (·.1)).Nodup := by
      rw [List.map_append]
      refine nd.sublist ((List.Sublist.refl _).append ?_)
      exact (List.Sublist.refl _).cons _ |>.cons _
    have np : p ∉ R ∧ q ∉ R := by
      have key : ∀ z, z ∉ (a.map (·.1)) → z ∉ (b.map (·.1)) → z ∉ R := fun z h1 h2 hz => by
        obtain ⟨x, hx, e⟩ := hS z hz
        have := mem h x hx
        rcases List.mem_append.mp this with m | m
        · exact h1 (e ▸ List.mem_map_of_mem m)
        · exact h2 (e ▸ List.mem_map_of_mem m)
      obtain ⟨n1, n2, n3⟩ := List.nodup_append.mp nd
      have n4 := List.nodup_cons.mp n2
      have n5 := List.nodup_cons.mp n4.2
      refine ⟨key p (fun z => n3 p z p (by simp) rfl) (fun z => n4.1 (List.mem_cons_of_mem _ z)), key q (fun z => n3 q z q (by simp) rfl) n5.1⟩
    have e : (a ++ (p, false) :: (q, true) :: b).filter (fun x => decide (x.1 ∉ R)) = a.filter (fun x => decide (x.1 ∉ R)) ++ ((p, false) :: (q, true) :: b.filter fun x => decide (x.1 ∉ R)) := by
      rw [List.filter_append, List.filter_cons, List.filter_cons]
      simp [np.1, np.2]
    rw [e]
    have ih := ih nd2 hR hS
    rw [List.filter_append] at ih
    simp only [sg, List.map_append, List.map_cons] at ih ⊢
    exact (total_app _ _ _ _ fun o => by simp only [total]).trans ih
/-- no pair meets -/
def NoPair (l : List Br) : Prop := ∀ i (x y : Br), l[i]? = some x → l[i + 1]? = some y → ¬ (x.2 = false ∧ y.2 = true)
theorem NoPair.tail {x : Br} {l : List Br} (h : NoPair (x :: l)) : NoPair l := fun i a b ha hb => h (i + 1) a b (by simpa using ha) (by simpa using hb)
theorem lo_open : ∀ (l : List Br) (w f : List Nat), (∀ x ∈ l, x.2 = false) → lo w f l = f ++ w ++ l.map (·.1)
  | [], w, f, _ => by simp [lo]
  | (p, b) :: l, w, f, h => by
    obtain rfl : b = false := h (p, b) List.mem_cons_self
    simp only [lo, lo_open l _ _ fun x hx => h x (List.mem_cons_of_mem _ hx), List.map_cons]
    simp
theorem open_all : ∀ (l : List Br) (p : Nat), NoPair ((p, false) :: l) → ∀ x ∈ l, x.2 = false
  | [], _, _, x, hx => nomatch hx
  | (q, b) :: l, p, h, x, hx => by
    have hb : b = false := by
      have := h 0 (p, false) (q, b) rfl rfl
      cases b <;> simp at this ⊢
    subst hb
    rcases List.mem_cons.mp hx with e | hx
    · subst e; rfl
    · exact open_all l q h.tail x hx
theorem lo_nopair : ∀ (l : List Br) (f : List Nat), NoPair l → lo [] f l = f ++ l.map (·.1)
  | [], f, _ => by simp [lo]
  | (p, true) :: l, f, h => by
    simp only [lo, if_true, lo_nopair l _ h.tail, List.map_cons]
    simp
  | (p, false) :: l, f, h => by
    rw [lo_open _ _ _ (fun x hx => by
      rcases List.mem_cons.mp hx with e | hx
      · subst e; rfl
      · exact open_all l p h x hx)]
    simp
/-- the signs but those at R -/
def cut (R : List Nat) : Nat → List Nat → List Nat
  | _, [] => []
  | n, c :: cs => (if n ∈ R then [] else [c]) ++ cut R (n + 1) cs
theorem cut_app (R : List Nat) : ∀ (a b : List Nat) (n : Nat), cut R n (a ++ b) = cut R n a ++ cut R (n + a.length) b
  | [], b, n => rfl
  | c :: a, b, n => by
    simp only [List.cons_append, cut, cut_app R a b, List.append_assoc, List.length_cons]
    rw [show n + 1 + a.length = n + (a.length + 1) by omega]
theorem cut_len (R : List Nat) : ∀ (cs : List Nat) (n : Nat), (cut R n cs).length ≤ cs.length
  | [], _ => Nat.le_refl _
  | c :: cs, n => by
    have := cut_len R cs (n + 1)
    simp only [cut, List.length_append, List.length_cons]
    split <;> simp <;> omega
theorem cut_pl (R : List Nat) : ∀ (cs : List Nat) (n m : Nat) (r : Bool), (∀ k ∈ R, n ≤ k → k ∈ (pl n r cs).map (·.1)) → sg (pl m r (cut R n cs)) = sg ((pl n r cs).filter fun x => decide (x.1 ∉ R))
  | [], n, m, r, h => rfl
  | c :: cs, n, m, r, h => by
    have rest : ∀ r', (∀ k ∈ R, n + 1 ≤ k → k ∈ (pl n r (c :: cs)).map (·.1)) → nxt r c = r' → ∀ k ∈ R, n + 1 ≤ k → k ∈ (pl (n + 1) r' cs).map (·.1) := fun r' h e k hk hn => by
      have := h k hk hn
      simp only [pl, List.map_append, List.mem_append] at this
      rcases this with z | z
      · split at z
        · simp only [List.map_cons, List.map_nil, List.mem_singleton] at z
          omega
        · cases z
      · rw [← e]; exact z
    have hr := rest (nxt r c) (fun k hk hn => h k hk (by omega)) rfl
    by_cases hn : n ∈ R
    · have := h n hn (Nat.le_refl _)
      simp only [pl, List.map_append, List.mem_append] at this
      have q : nxt r c = false ∧ (c = 123 ∨ c = 125) := by
        rcases this with z | z
        · split at z
          · assumption
          · cases z
        · obtain ⟨x, hx, e⟩ := List.mem_map.mp z
          have := (pl_ge cs (n + 1) _ x hx).1
          omega
      have er : nxt r c = r := by
        unfold nxt
        rcases q.2 with e | e <;> subst e <;> simp
      have er0 : r = false := er ▸ q.1
      simp only [cut, hn, if_true, List.nil_append, pl, q, List.filter_append]
      rw [er] at hr
      have ih := cut_pl R cs (n + 1) m r hr
      rw [ih, er0]
      have : nxt false c = false := by rw [← er0]; exact er
      simp [this, hn, q.2, sg]
    · simp only [cut, hn, if_false, List.singleton_append, pl, List.filter_append]
      have ih := cut_pl R cs (n + 1) (m + 1) (nxt r c) hr
      simp only [sg, List.map_append] at ih ⊢
      rw [ih]
      split
      · simp [hn]
      · simp
theorem total_redA {l u : List Br} (h : Red l u) (o : Nat) (more : List Bool) : total o (sg l ++ more) = total o (sg u ++ more) := by
  induction h generalizing o with
  | refl => rfl
  | @step a b u p q _ ih =>
    rw [← ih]
    simp only [sg, List.map_append, List.map_cons, List.append_assoc, List.cons_append]
    exact total_app _ _ _ _ fun o => by simp only [total]
theorem red_mem {l u : List Br} (h : Red l u) : ∀ x ∈ u, x ∈ l := by
  induction h with
  | refl => exact fun x hx => hx
  | step _ ih =>
    intro x hx
    have := ih x hx
    simp only [List.mem_append, List.mem_cons] at this ⊢
    rcases this with z | z
    · exact .inl z
    · exact .inr (.inr (.inr z))
theorem Red.trans {a b c : List Br} (h : Red a b) (k : Red b c) : Red a c := by
  induction h with
  | refl => exact k
  | step _ ih => exact .step (ih k)
theorem total_open (l : List Bool) : ∀ (e o : Nat), total o (List.replicate e false ++ l) = total (o + e) l
  | 0, o => rfl
  | e + 1, o => by
    rw [List.replicate_succ, List.cons_append]
    simp only [total]
    rw [total_open l e (o + 1)]
    congr 1
    omega
theorem total_shut (l : List Bool) : ∀ (e o : Nat), total (o + e) (List.replicate e true ++ l) = total o l
  | 0, o => rfl
  | e + 1, o => by
    rw [List.replicate_succ, List.cons_append]
    show total ((o + e) + 1) (true :: (List.replicate e true ++ l)) = _
    simp only [total]
    exact total_shut l e o
theorem nopair_shape : ∀ (l : List Br), NoPair l → ∃ e m, sg l = List.replicate e true ++ List.replicate m false
  | [], _ => ⟨0, 0, rfl⟩
  | (p, true) :: l, h => by
    obtain ⟨e, m, q⟩ := nopair_shape l h.tail
    exact ⟨e + 1, m, by rw [List.replicate_succ, List.cons_append, ← q]; rfl⟩
  | (p, false) :: l, h => by
    refine ⟨0, l.length + 1, ?_⟩
    have := open_all l p h
    rw [List.replicate_zero, List.nil_append, List.replicate_succ]
    simp only [sg, List.map_cons]
    congr 1
    exact List.eq_replicate_iff.mpr ⟨by simp, fun b hb => by obtain ⟨x, hx, e⟩ := List.mem_map.mp hb; rw [← e]; exact this x hx⟩
/-- with the missing ones put in -/
theorem total_closed {l u : List Br} (h : Red l u) (np : NoPair u) : total 0 (List.replicate ((sg u).count true) false ++ (sg l ++ List.replicate ((sg u).count false) true)) = 0 := by
  obtain ⟨e, m, q⟩ := nopair_shape u np
  rw [total_open, total_redA h, q]
  have c1 : (List.replicate e true ++ List.replicate m false).count true = e := by simp [List.count_append, List.count_replicate]
  have c2 : (List.replicate e true ++ List.replicate m false).count false = m := by simp [List.count_append, List.count_replicate]
  rw [c1, c2, List.append_assoc, total_shut]
  have := total_open (List.replicate m true) m 0
  rw [this]
  have := total_shut [] m 0
  rw [List.append_nil] at this
  rw [this]
  rfl
theorem few_struck : ∀ (one : List Nat) (l : List Br), (l.map (·.1)).Nodup → l.length ≤ (l.filter fun x => decide (x.1 ∉ one)).length + one.length
  | [], l, _ => by
    rw [List.filter_eq_self.mpr (by simp)]
    simp
  | a :: one, l, nd => by
    have ih := few_struck one (l.filter fun x => decide (x.1 ≠ a)) (nd.sublist (List.Sublist.map _ List.filter_sublist))
    have e : (l.filter fun x => decide (x.1 ∉ a :: one)) = (l.filter fun x => decide (x.1 ≠ a)).filter fun x => decide (x.1 ∉ one) := by
      rw [List.filter_filter]
      congr 1
      funext x
      simp only [List.mem_cons, not_or]
      by_cases h1 : x.1 = a <;> by_cases h2 : x.1 ∈ one <;> simp [h1, h2]
    rw [e]
    have one_at : l.length ≤ (l.filter fun x => decide (x.1 ≠ a)).length + 1 := by
      clear ih e
      induction l with
      | nil => simp
      | cons y l ih =>
        simp only [List.map_cons, List.nodup_cons] at nd
        by_cases h : y.1 = a
        · have : l.filter (fun x => decide (x.1 ≠ a)) = l := List.filter_eq_self.mpr fun x hx => by
            simp only [ne_eq, decide_eq_true_eq]
            intro e
            exact nd.1 (by rw [h, ← e]; exact List.mem_map_of_mem hx)
          rw [List.filter_cons, this]
          simp [h]
        · have := ih nd.2
          rw [List.filter_cons]
          simp [h] at this ⊢
          omega
    simp only [List.length_cons]
    omega
theorem nd_pl (n : Nat) (r : Bool) (cs : List Nat) : ((pl n r cs).map (·.1)).Nodup := by
  rw [List.Nodup, List.pairwise_map]
  exact (pl_sorted cs n r).imp fun h => Nat.ne_of_lt h
/-- does it fit? -/
def fitsB : Nat → List Bool → Bool
  | o, [] => o == 0
  | o, false :: l => fitsB (o + 1) l
  | 0, true :: _ => false
  | o + 1, true :: l => fitsB o l
theorem fitsB_total : ∀ (l : List Bool) (o : Nat), fitsB o l = (total o l == 0)
  | [], _ => rfl
  | false :: l, o => by simp only [fitsB, total]; exact fitsB_total l (o + 1)
  | true :: l, 0 => by
    simp only [fitsB, total]
    have : ¬ (1 + total 0 l = 0) := by omega
    simp [this]
  | true :: l, o + 1 => by simp only [fitsB, total]; exact fitsB_total l o
def fits (cs : List Nat) : Bool := fitsB 0 (sg (pl 0 false cs))
end K04
end TW

/-! what the defs are worth -/
namespace TW
namespace K04
open PySem PySem.Spec PyProof.Rows L2
def fuel : Nat := 100
abbrev F (k : Nat) : Fs := callF tbl fuel k
theorem l59 : (";" : Str) = mk [59] := by decide +kernel
theorem l10 : ("\n" : Str) = mk [10] := by decide +kernel
theorem l123 : ("{" : Str) = mk [123] := by decide +kernel
theorem l125 : ("}" : Str) = mk [125] := by decide +kernel
theorem lbb : ("{}" : Str) = mk [123, 125] := by decide +kernel
theorem l0 : ("" : Str) = mk [] := by decide +kernel
abbrev pls (l : List Br) : List D := l.map fun x => .int x.1
theorem pl_one (cs : List Nat) (i : Nat) (hi : i < cs.length) : pl 0 false (cs.take (i + 1)) = pl 0 false (cs.take i) ++ (if nxt (st false (cs.take i)) cs[i] = false ∧ (cs[i] = 123 ∨ cs[i] = 125) then [(i, decide (cs[i] = 125))] else []) := by
  rw [List.take_add_one, List.getElem?_eq_getElem hi, Option.toList_some, pl_app]
  simp [pl, List.length_take, Nat.min_eq_left (Nat.le_of_lt hi)]
theorem st_one (cs : List Nat) (i : Nat) (hi : i < cs.length) : st false (cs.take (i + 1)) = nxt (st false (cs.take i)) cs[i] := by
  rw [List.take_add_one, List.getElem?_eq_getElem hi, Option.toList_some, st_app]
  rfl
theorem short (cs : List Nat) (i : Nat) (hl : cs.length ≤ 1000) : (pls (pl 0 false (cs.take i))).length < LIM := by
  have := pl_len (cs.take i) 0 false
  have h2 : (cs.take i).length ≤ cs.length := List.length_take_le' _ _
  show (List.map _ _).length < 16777216
  rw [List.length_map]
  omega
theorem in_two (c : Nat) : inD (.str (mk [c])) (.tup [.str (mk [123]), .str (mk [125])]) = .ok (decide (c = 123 ∨ c = 125)) := by
  have := in_tup_str [c] [[123], [125]]
  simpa using this
theorem in_two' (c : Nat) : inD (.str (mk [c])) (.str (mk [123, 125])) = .ok (decide (c = 123 ∨ c = 125)) := by
  have := in_str c [123, 125]
  simpa using this
theorem sg_cases (c : Nat) : c = 59 ∨ c = 10 ∨ (c ≠ 59 ∧ c ≠ 10) := by omega
theorem one_beq (c d : Nat) : ([c] == [d]) = decide (c = d) := by
  by_cases h : c = d
  · subst h; simp
  · simp [h]
theorem ev_places (k : Nat) (cs : List Nat) (hl : cs.length ≤ 1000) : F (k + 1) 0 [.str (mk cs)] = .ok (.lst (pls (pl 0 false cs))) := by
  refine callF_rt (d := d_bracket_places) rfl rfl ?_
  show evB _ fuel b_bracket_places [some (.str (mk cs)), none, none, none, none] = _
  unfold b_bracket_places
  rw [evB_nx (ρ1 := [some (.str (mk cs)), some (.lst []), none, none, none]) (by rfl), evB_nx (ρ1 := [some (.str (mk cs)), some (.lst []), some (.bl false), none, none]) (by rfl)]
  have hw : enumD (.str (mk cs)) = .ok (enumL (cs.map fun c => .str (mk [c]))) := by
    have : (mk cs).length ≤ LIM := by show cs.length ≤ 16777216; omega
    simp only [enumD, this, if_true, mk_cps]
    rfl
  refine evB_for (fun i ρ => ∃ o3 o4, ρ = [some (.str (mk cs)), some (.lst (pls (pl 0 false (cs.take i)))), some (.bl (st false (cs.take i))), o3, o4]) (xs := enumL (cs.map fun c => .str (mk [c]))) ?_ ⟨none, none, rfl⟩ ?_ ?_
  · simp only [evI, evE, lk_0, R_ok_bind, hw]
  · rintro i x ρ ex ⟨o3, o4, rfl⟩
    obtain ⟨y, ey, rfl⟩ := enumL_at ex
    rw [List.getElem?_map] at ey
    cases ec : cs[i]? with
    | none => rw [ec] at ey; cases ey
    | some c =>
      rw [ec] at ey
      obtain rfl : D.str (mk [c]) = y := by simpa using ey
      obtain ⟨hi, hc⟩ := List.getElem?_eq_some_iff.mp ec
      refine ⟨_, _, rfl, ?_, some (.int i), some (.str (mk [c])), rfl⟩
      rw [pl_one cs i hi, st_one cs i hi, hc]
      have hlen := short cs i hl
      generalize pl 0 false (cs.take i) = found at hlen ⊢
      generalize st false (cs.take i) = r
      have two : ([D.str (mk [123]), D.str (mk [125])] : List D).length ≤ LIM := by decide
      rcases sg_cases c with rfl | rfl | ⟨h1, h2⟩
      · simp -implicitDefEqProofs only [evB, evS, evE, evL, evAnd, evOr, evIfs, evO, evI, part, R_ok_bind, R_ok_map, seq_nx, seq_rt, seq_bk, res_rt, res_nx, lk_0, lk_s, asL_lst, tru_bl, tru_int, cd_non, cd_bl, cd_int, cd_str, ceq_str, cne_str, ceq_int, cne_int, ceq_bl, cne_bl, clt_int, cle_int, cgt_int, cge_int, badd_int, bsub_int, len_lst, len_rol, abs_int, int_int, int_bl, cin_map, cnin_map, List.set_cons_zero, List.set_cons_succ, if_true, if_false, ite_true, ite_false, Bool.false_eq_true, Bool.not_true, Bool.not_false, Bool.and_true, Bool.true_and, Bool.and_false, Bool.false_and, Bool.or_true, Bool.true_or, Bool.or_false, Bool.false_or, reduceCtorEq, decide_true, decide_false, l59, l10, l123, l125, one_beq, in_two, two, nxt, pls, Nat.reduceEqDiff, false_and, or_self, List.append_nil]
      · simp -implicitDefEqProofs only [evB, evS, evE, evL, evAnd, evOr, evIfs, evO, evI, part, R_ok_bind, R_ok_map, seq_nx, seq_rt, seq_bk, res_rt, res_nx, lk_0, lk_s, asL_lst, tru_bl, tru_int, cd_non, cd_bl, cd_int, cd_str, ceq_str, cne_str, ceq_int, cne_int, ceq_bl, cne_bl, clt_int, cle_int, cgt_int, cge_int, badd_int, bsub_int, len_lst, len_rol, abs_int, int_int, int_bl, cin_map, cnin_map, List.set_cons_zero, List.set_cons_succ, if_true, if_false, ite_true, ite_false, Bool.false_eq_true, Bool.not_true, Bool.not_false, Bool.and_true, Bool.true_and, Bool.and_false, Bool.false_and, Bool.or_true, Bool.true_or, Bool.or_false, Bool.false_or, reduceCtorEq, decide_true, decide_false, l59, l10, l123, l125, one_beq, in_two, two, nxt, pls, Nat.reduceEqDiff, true_and, or_self, List.append_nil]
      · cases r with
        | true => simp -implicitDefEqProofs only [evB, evS, evE, evL, evAnd, evOr, evIfs, evO, evI, part, R_ok_bind, R_ok_map, seq_nx, seq_rt, seq_bk, res_rt, res_nx, lk_0, lk_s, asL_lst, tru_bl, tru_int, cd_non, cd_bl, cd_int, cd_str, ceq_str, cne_str, ceq_int, cne_int, ceq_bl, cne_bl, clt_int, cle_int, cgt_int, cge_int, badd_int, bsub_int, len_lst, len_rol, abs_int, int_int, int_bl, cin_map, cnin_map, List.set_cons_zero, List.set_cons_succ, if_true, if_false, ite_true, ite_false, Bool.false_eq_true, Bool.not_true, Bool.not_false, Bool.and_true, Bool.true_and, Bool.and_false, Bool.false_and, Bool.or_true, Bool.true_or, Bool.or_false, Bool.false_or, reduceCtorEq, decide_true, decide_false, l59, l10, l123, l125, one_beq, h1, h2, in_two, two, nxt, pls, false_and, List.append_nil]
        | false =>
          by_cases h3 : c = 123 ∨ c = 125
          · simp -implicitDefEqProofs only [evB, evS, evE, evL, evAnd, evOr, evIfs, evO, evI, part, R_ok_bind, R_ok_map, seq_nx, seq_rt, seq_bk, res_rt, res_nx, lk_0, lk_s, asL_lst, tru_bl, tru_int, cd_non, cd_bl, cd_int, cd_str, ceq_str, cne_str, ceq_int, cne_int, ceq_bl, cne_bl, clt_int, cle_int, cgt_int, cge_int, badd_int, bsub_int, len_lst, len_rol, abs_int, int_int, int_bl, cin_map, cnin_map, List.set_cons_zero, List.set_cons_succ, if_true, if_false, ite_true, ite_false, Bool.false_eq_true, Bool.not_true, Bool.not_false, Bool.and_true, Bool.true_and, Bool.and_false, Bool.false_and, Bool.or_true, Bool.true_or, Bool.or_false, Bool.false_or, reduceCtorEq, decide_true, decide_false, l59, l10, l123, l125, one_beq, h1, h2, h3, in_two, two, nxt, pls, true_and, hlen, List.map_append, List.map_cons, List.map_nil]
          · simp -implicitDefEqProofs only [evB, evS, evE, evL, evAnd, evOr, evIfs, evO, evI, part, R_ok_bind, R_ok_map, seq_nx, seq_rt, seq_bk, res_rt, res_nx, lk_0, lk_s, asL_lst, tru_bl, tru_int, cd_non, cd_bl, cd_int, cd_str, ceq_str, cne_str, ceq_int, cne_int, ceq_bl, cne_bl, clt_int, cle_int, cgt_int, cge_int, badd_int, bsub_int, len_lst, len_rol, abs_int, int_int, int_bl, cin_map, cnin_map, List.set_cons_zero, List.set_cons_succ, if_true, if_false, ite_true, ite_false, Bool.false_eq_true, Bool.not_true, Bool.not_false, Bool.and_true, Bool.true_and, Bool.and_false, Bool.false_and, Bool.or_true, Bool.true_or, Bool.or_false, Bool.false_or, reduceCtorEq, decide_true, decide_false, l59, l10, l123, l125, one_beq, h1, h2, h3, in_two, two, nxt, pls, true_and, List.append_nil]
  · rintro ρ' ⟨o3, o4, rfl⟩
    simp -implicitDefEqProofs only [evB, evS, evE, evL, evAnd, evOr, evIfs, evO, evI, part, R_ok_bind, R_ok_map, seq_nx, seq_rt, seq_bk, res_rt, res_nx, lk_0, lk_s, asL_lst, tru_bl, tru_int, cd_non, cd_bl, cd_int, cd_str, ceq_str, cne_str, ceq_int, cne_int, ceq_bl, cne_bl, clt_int, cle_int, cgt_int, cge_int, badd_int, bsub_int, len_lst, len_rol, abs_int, int_int, int_bl, cin_map, cnin_map, List.set_cons_zero, List.set_cons_succ, if_true, if_false, ite_true, ite_false, Bool.false_eq_true, Bool.not_true, Bool.not_false, Bool.and_true, Bool.true_and, Bool.and_false, Bool.false_and, Bool.or_true, Bool.true_or, Bool.or_false, Bool.false_or, reduceCtorEq, decide_true, decide_false, enumL_ln, List.length_map, List.take_length]
theorem ev_lplaces (k : Nat) (cs : List Nat) (hl : cs.length ≤ 1000) : F (k + 1) 6 [.str (mk cs)] = .ok (.lst (pls (pl 0 false cs))) := by
  refine callF_rt (d := d_law_places) rfl rfl ?_
  show evB _ fuel b_law_places [some (.str (mk cs)), none, none, none] = _
  unfold b_law_places
  rw [evB_nx (ρ1 := [some (.str (mk cs)), some (.lst []), none, none]) (by rfl), evB_nx (ρ1 := [some (.str (mk cs)), some (.lst []), some (.bl false), none]) (by rfl)]
  have hL : cs.length ≤ LIM := lim_le (by omega)
  refine evB_for (fun i ρ => ∃ o3, ρ = [some (.str (mk cs)), some (.lst (pls (pl 0 false (cs.take i)))), some (.bl (st false (cs.take i))), o3]) (xs := rngL 0 cs.length) ?_ ⟨none, rfl⟩ ?_ ?_
  · simp -implicitDefEqProofs only [evB, evS, evE, evL, evAnd, evOr, evIfs, evO, evI, part, R_ok_bind, R_ok_map, seq_nx, seq_rt, seq_bk, res_rt, res_nx, lk_0, lk_s, asL_lst, tru_bl, tru_int, cd_non, cd_bl, cd_int, cd_str, ceq_str, cne_str, ceq_int, cne_int, ceq_bl, cne_bl, clt_int, cle_int, cgt_int, cge_int, badd_int, bsub_int, len_lst, len_rol, abs_int, int_int, int_bl, cin_map, cnin_map, List.set_cons_zero, List.set_cons_succ, if_true, if_false, ite_true, ite_false, Bool.false_eq_true, Bool.not_true, Bool.not_false, Bool.and_true, Bool.true_and, Bool.and_false, Bool.false_and, Bool.or_true, Bool.true_or, Bool.or_false, Bool.false_or, reduceCtorEq, decide_true, decide_false, len_str cs hL, rngD_nat cs.length (by omega)]
  · rintro i x ρ ex ⟨o3, rfl⟩
    obtain ⟨hi, rfl⟩ := rngL_get ex
    refine ⟨_, _, rfl, ?_, some (.int i), rfl⟩
    rw [pl_one cs i hi, st_one cs i hi]
    have ix := idx_str hi hL
    have hlen := short cs i hl
    generalize cs[i] = c at ix ⊢
    generalize pl 0 false (cs.take i) = found at hlen ⊢
    generalize st false (cs.take i) = r
    rcases sg_cases c with rfl | rfl | ⟨h1, h2⟩
    · simp -implicitDefEqProofs only [evB, evS, evE, evL, evAnd, evOr, evIfs, evO, evI, part, R_ok_bind, R_ok_map, seq_nx, seq_rt, seq_bk, res_rt, res_nx, lk_0, lk_s, asL_lst, tru_bl, tru_int, cd_non, cd_bl, cd_int, cd_str, ceq_str, cne_str, ceq_int, cne_int, ceq_bl, cne_bl, clt_int, cle_int, cgt_int, cge_int, badd_int, bsub_int, len_lst, len_rol, abs_int, int_int, int_bl, cin_map, cnin_map, List.set_cons_zero, List.set_cons_succ, if_true, if_false, ite_true, ite_false, Bool.false_eq_true, Bool.not_true, Bool.not_false, Bool.and_true, Bool.true_and, Bool.and_false, Bool.false_and, Bool.or_true, Bool.true_or, Bool.or_false, Bool.false_or, reduceCtorEq, decide_true, decide_false, ix, l59, l10, lbb, one_beq, in_two', nxt, pls, Nat.reduceEqDiff, false_and, or_self, List.append_nil]
    · simp -implicitDefEqProofs only [evB, evS, evE, evL, evAnd, evOr, evIfs, evO, evI, part, R_ok_bind, R_ok_map, seq_nx, seq_rt, seq_bk, res_rt, res_nx, lk_0, lk_s, asL_lst, tru_bl, tru_int, cd_non, cd_bl, cd_int, cd_str, ceq_str, cne_str, ceq_int, cne_int, ceq_bl, cne_bl, clt_int, cle_int, cgt_int, cge_int, badd_int, bsub_int, len_lst, len_rol, abs_int, int_int, int_bl, cin_map, cnin_map, List.set_cons_zero, List.set_cons_succ, if_true, if_false, ite_true, ite_false, Bool.false_eq_true, Bool.not_true, Bool.not_false, Bool.and_true, Bool.true_and, Bool.and_false, Bool.false_and, Bool.or_true, Bool.true_or, Bool.or_false, Bool.false_or, reduceCtorEq, decide_true, decide_false, ix, l59, l10, lbb, one_beq, in_two', nxt, pls, Nat.reduceEqDiff, true_and, or_self, List.append_nil]
    · by_cases h3 : c = 123 ∨ c = 125
      · cases r with
        | true => simp -implicitDefEqProofs only [evB, evS, evE, evL, evAnd, evOr, evIfs, evO, evI, part, R_ok_bind, R_ok_map, seq_nx, seq_rt, seq_bk, res_rt, res_nx, lk_0, lk_s, asL_lst, tru_bl, tru_int, cd_non, cd_bl, cd_int, cd_str, ceq_str, cne_str, ceq_int, cne_int, ceq_bl, cne_bl, clt_int, cle_int, cgt_int, cge_int, badd_int, bsub_int, len_lst, len_rol, abs_int, int_int, int_bl, cin_map, cnin_map, List.set_cons_zero, List.set_cons_succ, if_true, if_false, ite_true, ite_false, Bool.false_eq_true, Bool.not_true, Bool.not_false, Bool.and_true, Bool.true_and, Bool.and_false, Bool.false_and, Bool.or_true, Bool.true_or, Bool.or_false, Bool.false_or, reduceCtorEq, decide_true, decide_false, ix, l59, l10, lbb, one_beq, h1, h2, h3, in_two', nxt, pls, false_and, List.append_nil]
        | false => simp -implicitDefEqProofs only [evB, evS, evE, evL, evAnd, evOr, evIfs, evO, evI, part, R_ok_bind, R_ok_map, seq_nx, seq_rt, seq_bk, res_rt, res_nx, lk_0, lk_s, asL_lst, tru_bl, tru_int, cd_non, cd_bl, cd_int, cd_str, ceq_str, cne_str, ceq_int, cne_int, ceq_bl, cne_bl, clt_int, cle_int, cgt_int, cge_int, badd_int, bsub_int, len_lst, len_rol, abs_int, int_int, int_bl, cin_map, cnin_map, List.set_cons_zero, List.set_cons_succ, if_true, if_false, ite_true, ite_false, Bool.false_eq_true, Bool.not_true, Bool.not_false, Bool.and_true, Bool.true_and, Bool.and_false, Bool.false_and, Bool.or_true, Bool.true_or, Bool.or_false, Bool.false_or, reduceCtorEq, decide_true, decide_false, ix, l59, l10, lbb, one_beq, h1, h2, h3, in_two', nxt, pls, true_and, hlen, List.map_append, List.map_cons, List.map_nil]
      · simp -implicitDefEqProofs only [evB, evS, evE, evL, evAnd, evOr, evIfs, evO, evI, part, R_ok_bind, R_ok_map, seq_nx, seq_rt, seq_bk, res_rt, res_nx, lk_0, lk_s, asL_lst, tru_bl, tru_int, cd_non, cd_bl, cd_int, cd_str, ceq_str, cne_str, ceq_int, cne_int, ceq_bl, cne_bl, clt_int, cle_int, cgt_int, cge_int, badd_int, bsub_int, len_lst, len_rol, abs_int, int_int, int_bl, cin_map, cnin_map, List.set_cons_zero, List.set_cons_succ, if_true, if_false, ite_true, ite_false, Bool.false_eq_true, Bool.not_true, Bool.not_false, Bool.and_true, Bool.true_and, Bool.and_false, Bool.false_and, Bool.or_true, Bool.true_or, Bool.or_false, Bool.false_or, reduceCtorEq, decide_true, decide_false, ix, l59, l10, lbb, one_beq, h1, h2, h3, in_two', nxt, pls, and_false, List.append_nil]
  · rintro ρ' ⟨o3, rfl⟩
    simp -implicitDefEqProofs only [evB, evS, evE, evL, evAnd, evOr, evIfs, evO, evI, part, R_ok_bind, R_ok_map, seq_nx, seq_rt, seq_bk, res_rt, res_nx, lk_0, lk_s, asL_lst, tru_bl, tru_int, cd_non, cd_bl, cd_int, cd_str, ceq_str, cne_str, ceq_int, cne_int, ceq_bl, cne_bl, clt_int, cle_int, cgt_int, cge_int, badd_int, bsub_int, len_lst, len_rol, abs_int, int_int, int_bl, cin_map, cnin_map, List.set_cons_zero, List.set_cons_succ, if_true, if_false, ite_true, ite_false, Bool.false_eq_true, Bool.not_true, Bool.not_false, Bool.and_true, Bool.true_and, Bool.and_false, Bool.false_and, Bool.or_true, Bool.true_or, Bool.or_false, Bool.false_or, reduceCtorEq, decide_true, decide_false, rngL_len, List.take_length]
theorem pl_char {cs : List Nat} {x : Br} (h : x ∈ pl 0 false cs) : ∃ h : x.1 < cs.length, cs[x.1] = if x.2 then 125 else 123 := by
  obtain ⟨_, h2, h3⟩ := pl_ge cs 0 false x h
  have h2 : x.1 < cs.length := by omega
  refine ⟨h2, ?_⟩
  rw [Nat.sub_zero, List.getElem?_eq_getElem h2] at h3
  exact Option.some.inj h3
theorem at_br {cs : List Nat} {x : Br} (hl : cs.length ≤ 1000) (h : x ∈ pl 0 false cs) : idx (.str (mk cs)) (.int x.1) = .ok (.str (mk [if x.2 then 125 else 123])) := by
  obtain ⟨h1, h2⟩ := pl_char h
  rw [idx_str h1 (lim_le (by omega)), h2]
abbrev nts (l : List Nat) : List D := l.map fun (n : Nat) => .int n
/-- the program's list of those without a match -/
theorem ev_loose (k : Nat) (cs : List Nat) (hl : cs.length ≤ 1000) : F (k + 2) 1 [.str (mk cs)] = .ok (.lst (nts (lo [] [] (pl 0 false cs)))) := by
  refine callF_rt (d := d_loose) rfl rfl ?_
  show evB (F (k + 1)) fuel b_loose [some (.str (mk cs)), none, none, none] = _
  unfold b_loose
  rw [evB_nx (ρ1 := [some (.str (mk cs)), some (.lst []), none, none]) (by rfl), evB_nx (ρ1 := [some (.str (mk cs)), some (.lst []), some (.lst []), none]) (by rfl)]
  have hlp := pl_len cs 0 false
  generalize hp : pl 0 false cs = l at hlp
  have mem : ∀ x ∈ l, x ∈ pl 0 false cs := fun x hx => hp ▸ hx
  have app : ∀ (a b : List Br) (w f : List Nat), ∃ w' f', w'.length + f'.length ≤ w.length + f.length + a.length ∧ lo w f (a ++ b) = lo w' f' b ∧ lo w f a = f' ++ w' := by
    intro a
    induction a with
    | nil => exact fun b w f => ⟨w, f, by simp, rfl, rfl⟩
    | cons x a ih =>
      intro b w f
      obtain ⟨p, c⟩ := x
      cases c with
      | false =>
        obtain ⟨w', f', h1, h2, h3⟩ := ih b (w ++ [p]) f
        exact ⟨w', f', by simp only [List.length_append, List.length_cons, List.length_nil] at h1 ⊢; omega, by simp only [List.cons_append, lo]; exact h2, by simp only [lo]; exact h3⟩
      | true =>
        by_cases hw : w = []
        · obtain ⟨w', f', h1, h2, h3⟩ := ih b w (f ++ [p])
          exact ⟨w', f', by simp only [List.length_append, List.length_cons, List.length_nil] at h1 ⊢; omega, by simp only [List.cons_append, lo, hw, if_true] at h2 ⊢; exact h2, by simp only [lo, hw, if_true] at h3 ⊢; exact h3⟩
        · obtain ⟨w', f', h1, h2, h3⟩ := ih b w.dropLast f
          exact ⟨w', f', by simp only [List.length_dropLast, List.length_cons] at h1 ⊢; omega, by simp only [List.cons_append, lo, hw, if_false] at h2 ⊢; exact h2, by simp only [lo, hw, if_false] at h3 ⊢; exact h3⟩
  refine evB_for (fun i ρ => ∃ o3 w f, w.length + f.length ≤ i ∧ (∀ b, lo [] [] (l.take i ++ b) = lo w f b) ∧ ρ = [some (.str (mk cs)), some (.lst (nts w)), some (.lst (nts f)), o3]) (xs := pls l) ?_ ⟨none, [], [], Nat.le_refl _, fun b => rfl, rfl⟩ ?_ ?_
  · simp -implicitDefEqProofs only [evB, evS, evE, evL, evAnd, evOr, evIfs, evO, evI, part, R_ok_bind, R_ok_map, seq_nx, seq_rt, seq_bk, res_rt, res_nx, lk_0, lk_s, asL_lst, tru_bl, tru_int, cd_non, cd_bl, cd_int, cd_str, ceq_str, cne_str, ceq_int, cne_int, ceq_bl, cne_bl, clt_int, cle_int, cgt_int, cge_int, badd_int, bsub_int, len_lst, len_rol, abs_int, int_int, int_bl, cin_map, cnin_map, List.set_cons_zero, List.set_cons_succ, if_true, if_false, ite_true, ite_false, Bool.false_eq_true, Bool.not_true, Bool.not_false, Bool.and_true, Bool.true_and, Bool.and_false, Bool.false_and, Bool.or_true, Bool.true_or, Bool.or_false, Bool.false_or, reduceCtorEq, decide_true, decide_false, ev_places k cs hl, walk, hp]
  · rintro i x ρ ex ⟨o3, w, f, hwf, hlo, rfl⟩
    rw [List.getElem?_map] at ex
    cases ey : l[i]? with
    | none => rw [ey] at ex; cases ex
    | some y =>
      rw [ey] at ex
      obtain rfl : D.int (y.1 : Nat) = x := by simpa using ex
      obtain ⟨hi, hy⟩ := List.getElem?_eq_some_iff.mp ey
      have ix := at_br hl (mem y (hy ▸ List.getElem_mem hi))
      have hlo' : ∀ b, lo [] [] (l.take (i + 1) ++ b) = lo w f (y :: b) := fun b => by
        rw [List.take_add_one, List.getElem?_eq_getElem hi, hy, Option.toList_some, List.append_assoc]
        exact hlo _
      have hw : (nts w).length < LIM := by show (List.map _ _).length < 16777216; rw [List.length_map]; omega
      have hf : (nts f).length < LIM := by show (List.map _ _).length < 16777216; rw [List.length_map]; omega
      obtain ⟨p, c⟩ := y
      cases c with
      | false =>
        refine ⟨_, [some (.str (mk cs)), some (.lst (nts (w ++ [p]))), some (.lst (nts f)), some (.int p)], rfl, ?_, some (.int p), w ++ [p], f, ?_, fun b => ?_, rfl⟩
        · simp -implicitDefEqProofs only [evB, evS, evE, evL, evAnd, evOr, evIfs, evO, evI, part, R_ok_bind, R_ok_map, seq_nx, seq_rt, seq_bk, res_rt, res_nx, lk_0, lk_s, asL_lst, tru_bl, tru_int, cd_non, cd_bl, cd_int, cd_str, ceq_str, cne_str, ceq_int, cne_int, ceq_bl, cne_bl, clt_int, cle_int, cgt_int, cge_int, badd_int, bsub_int, len_lst, len_rol, abs_int, int_int, int_bl, cin_map, cnin_map, List.set_cons_zero, List.set_cons_succ, if_true, if_false, ite_true, ite_false, Bool.false_eq_true, Bool.not_true, Bool.not_false, Bool.and_true, Bool.true_and, Bool.and_false, Bool.false_and, Bool.or_true, Bool.true_or, Bool.or_false, Bool.false_or, reduceCtorEq, decide_true, decide_false, ix, l123, one_beq, hw, List.map_append, List.map_cons, List.map_nil]
        · simp only [List.length_append, List.length_cons, List.length_nil]; omega
        · rw [hlo']; simp only [lo]
      | true =>
        by_cases h0 : w = []
        · subst h0
          refine ⟨_, [some (.str (mk cs)), some (.lst (nts [])), some (.lst (nts (f ++ [p]))), some (.int p)], rfl, ?_, some (.int p), [], f ++ [p], ?_, fun b => ?_, rfl⟩
          · simp -implicitDefEqProofs only [evB, evS, evE, evL, evAnd, evOr, evIfs, evO, evI, part, R_ok_bind, R_ok_map, seq_nx, seq_rt, seq_bk, res_rt, res_nx, lk_0, lk_s, asL_lst, tru_bl, tru_int, cd_non, cd_bl, cd_int, cd_str, ceq_str, cne_str, ceq_int, cne_int, ceq_bl, cne_bl, clt_int, cle_int, cgt_int, cge_int, badd_int, bsub_int, len_lst, len_rol, abs_int, int_int, int_bl, cin_map, cnin_map, List.set_cons_zero, List.set_cons_succ, if_true, if_false, ite_true, ite_false, Bool.false_eq_true, Bool.not_true, Bool.not_false, Bool.and_true, Bool.true_and, Bool.and_false, Bool.false_and, Bool.or_true, Bool.true_or, Bool.or_false, Bool.false_or, reduceCtorEq, decide_true, decide_false, ix, l123, one_beq, hf, List.map_append, List.map_cons, List.map_nil, List.length_nil, Nat.reduceEqDiff, Int.ofNat_eq_natCast, Int.cast_ofNat_Int, Int.lt_irrefl, Int.natCast_zero]
          · simp only [List.length_append, List.length_cons, List.length_nil] at hwf ⊢; omega
          · rw [hlo']; simp only [lo, if_true]
        · have hp0 : (0 : Int) < ((nts w).length : Int) := by
            have : w.length ≠ 0 := fun z => h0 (List.length_eq_zero_iff.mp z)
            rw [List.length_map]
            omega
          have he : (nts w).isEmpty = false := by cases w with
            | nil => exact absurd rfl h0
            | cons _ _ => rfl
          refine ⟨_, [some (.str (mk cs)), some (.lst (nts w.dropLast)), some (.lst (nts f)), some (.int p)], rfl, ?_, some (.int p), w.dropLast, f, ?_, fun b => ?_, rfl⟩
          · simp -implicitDefEqProofs only [evB, evS, evE, evL, evAnd, evOr, evIfs, evO, evI, part, R_ok_bind, R_ok_map, seq_nx, seq_rt, seq_bk, res_rt, res_nx, lk_0, lk_s, asL_lst, tru_bl, tru_int, cd_non, cd_bl, cd_int, cd_str, ceq_str, cne_str, ceq_int, cne_int, ceq_bl, cne_bl, clt_int, cle_int, cgt_int, cge_int, badd_int, bsub_int, len_lst, len_rol, abs_int, int_int, int_bl, cin_map, cnin_map, List.set_cons_zero, List.set_cons_succ, if_true, if_false, ite_true, ite_false, Bool.false_eq_true, Bool.not_true, Bool.not_false, Bool.and_true, Bool.true_and, Bool.and_false, Bool.false_and, Bool.or_true, Bool.true_or, Bool.or_false, Bool.false_or, reduceCtorEq, decide_true, decide_false, ix, l123, one_beq, hp0, he, Nat.reduceEqDiff, List.map_dropLast]
          · rw [List.length_dropLast]; omega
          · rw [hlo']; simp only [lo, h0, if_false]
  · rintro ρ' ⟨o3, w, f, hwf, hlo, rfl⟩
    have := hlo []
    rw [List.append_nil, List.length_map, List.take_length] at this
    simp only [lo] at this
    rw [this]
    have hb : (nts f).length + (nts w).length ≤ LIM := by simp only [List.length_map] at hwf ⊢; exact lim_le (by omega)
    simp -implicitDefEqProofs only [evB, evS, evE, evL, evAnd, evOr, evIfs, evO, evI, part, R_ok_bind, R_ok_map, seq_nx, seq_rt, seq_bk, res_rt, res_nx, lk_0, lk_s, asL_lst, tru_bl, tru_int, cd_non, cd_bl, cd_int, cd_str, ceq_str, cne_str, ceq_int, cne_int, ceq_bl, cne_bl, clt_int, cle_int, cgt_int, cge_int, badd_int, bsub_int, len_lst, len_rol, abs_int, int_int, int_bl, cin_map, cnin_map, List.set_cons_zero, List.set_cons_succ, if_true, if_false, ite_true, ite_false, Bool.false_eq_true, Bool.not_true, Bool.not_false, Bool.and_true, Bool.true_and, Bool.and_false, Bool.false_and, Bool.or_true, Bool.true_or, Bool.or_false, Bool.false_or, reduceCtorEq, decide_true, decide_false, badd_lst _ _ hb, List.map_append]
theorem strs_mk : ∀ l : List Nat, strsD (l.map fun c => D.str (mk [c])) = some (l.map fun c => mk [c])
  | [] => rfl
  | c :: l => by
    simp only [List.map_cons, strsD, strs_mk l]
    rfl
theorem sum_one : ∀ l : List Nat, ((l.map fun c => mk [c]).map (·.length)).sum = l.length
  | [] => rfl
  | c :: l => by
    simp only [List.map_cons, List.sum_cons, sum_one l, mk_len, List.length_cons, List.length_nil]
    omega
theorem glue_one : ∀ l : List Nat, Txt.join (mk []) (l.map fun c => mk [c]) = mk l
  | [] => rfl
  | [c] => rfl
  | c :: d :: l => by
    have ih := glue_one (d :: l)
    have key : ∀ (l : List Nat) (a : Array Nat), List.foldl (fun acc (p : Str) => acc ++ (mk []).cps ++ p.cps) a (l.map fun c => mk [c]) = a ++ l.toArray := by
      intro l
      induction l with
      | nil => intro a; simp
      | cons x l ih => intro a; rw [List.map_cons, List.foldl_cons, ih]; simp [mk]
    show (⟨List.foldl (fun acc (p : Str) => acc ++ (mk []).cps ++ p.cps) #[c] ((d :: l).map fun c => mk [c])⟩ : Str) = _
    rw [key]
    simp [mk]
theorem join_one (l : List Nat) (h : l.length ≤ LIM) : mth .join (.str (mk [])) (.lst (l.map fun c => .str (mk [c]))) = .ok (.str (mk l)) := by
  simp only [mth, strs_mk, sum_one, mk_len, List.length_nil, Nat.mul_zero, Nat.add_zero, h, if_true, glue_one]
/-- what struck keeps -/
def keepG (Q : List Nat) : D → Option D
  | .tup [.int i, y] => if i ∈ Q.map (fun (n : Nat) => (n : Int)) then none else some y
  | _ => none
theorem mem_cast (n : Nat) (Q : List Nat) : ((n : Int) ∈ Q.map (fun (n : Nat) => (n : Int))) = (n ∈ Q) := by
  simp only [List.mem_map, eq_iff_iff]
  exact ⟨fun ⟨a, h, e⟩ => by rw [← Int.ofNat.inj e]; exact h, fun h => ⟨n, h, rfl⟩⟩
theorem keep_cut (Q : List Nat) : ∀ (cs : List Nat) (n : Nat), (((cs.map fun c => D.str (mk [c])).zipIdx n).map fun p => D.tup [.int p.2, p.1]).filterMap (keepG Q) = (cut Q n cs).map fun c => D.str (mk [c])
  | [], _ => rfl
  | c :: cs, n => by
    simp only [List.map_cons, List.zipIdx_cons, List.filterMap_cons, keepG, cut, List.map_append, keep_cut Q cs (n + 1), mem_cast]
    by_cases h : n ∈ Q
    · simp [h]
    · simp [h]
theorem nts_int (l : List Nat) : nts l = (l.map fun (n : Nat) => (n : Int)).map D.int := by simp [nts]
theorem in_nts (n : Nat) (Q : List Nat) : inD (.int n) (.lst (nts Q)) = .ok (decide (n ∈ Q)) := by
  have q := inD_ints (n : Int) (Q.map fun (n : Nat) => (n : Int))
  rw [← nts_int] at q
  rw [q]
  congr 1
  exact decide_eq_decide.mpr (by rw [mem_cast])
theorem ev_struck (k : Nat) (cs : List Nat) (hl : cs.length ≤ 1000) : F (k + 3) 2 [.str (mk cs)] = .ok (.str (mk (cut (lo [] [] (pl 0 false cs)) 0 cs))) := by
  refine callF_rt (d := d_struck) rfl rfl ?_
  show evB (F (k + 2)) fuel b_struck [some (.str (mk cs)), none, none, none] = _
  unfold b_struck
  have e1 := ev_loose k cs hl
  generalize lo [] [] (pl 0 false cs) = Q at e1
  have hL : (mk cs).length ≤ LIM := lim_le (by show cs.length ≤ _; omega)
  have hw : enumD (.str (mk cs)) = .ok (enumL (cs.map fun c => .str (mk [c]))) := by
    simp only [enumD, hL, if_true, mk_cps]
    rfl
  rw [evB_asg (d := .lst (nts Q)) (by simp -implicitDefEqProofs only [evB, evS, evE, evL, evAnd, evOr, evIfs, evO, evI, part, R_ok_bind, R_ok_map, seq_nx, seq_rt, seq_bk, res_rt, res_nx, lk_0, lk_s, asL_lst, tru_bl, tru_int, cd_non, cd_bl, cd_int, cd_str, ceq_str, cne_str, ceq_int, cne_int, ceq_bl, cne_bl, clt_int, cle_int, cgt_int, cge_int, badd_int, bsub_int, len_lst, len_rol, abs_int, int_int, int_bl, cin_map, cnin_map, List.set_cons_zero, List.set_cons_succ, if_true, if_false, ite_true, ite_false, Bool.false_eq_true, Bool.not_true, Bool.not_false, Bool.and_true, Bool.true_and, Bool.and_false, Bool.false_and, Bool.or_true, Bool.true_or, Bool.or_false, Bool.false_or, reduceCtorEq, decide_true, decide_false, e1])]
  refine evB_ret ?_
  have hc := lc_ev (F := F (k + 2)) (own := [2, 3]) (tg := .t [2, 3]) (it := .enum (.var 0)) (ifs := .cons (.cmp .notIn (.var 2) (.var 1)) .nil) (e := .var 3) (ρ := [some (.str (mk cs)), some (.lst (nts Q)), none, none]) (xs := enumL (cs.map fun c => .str (mk [c]))) (keepG Q) (by simp -implicitDefEqProofs only [evB, evS, evE, evL, evAnd, evOr, evIfs, evO, evI, part, R_ok_bind, R_ok_map, seq_nx, seq_rt, seq_bk, res_rt, res_nx, lk_0, lk_s, asL_lst, tru_bl, tru_int, cd_non, cd_bl, cd_int, cd_str, ceq_str, cne_str, ceq_int, cne_int, ceq_bl, cne_bl, clt_int, cle_int, cgt_int, cge_int, badd_int, bsub_int, len_lst, len_rol, abs_int, int_int, int_bl, cin_map, cnin_map, List.set_cons_zero, List.set_cons_succ, if_true, if_false, ite_true, ite_false, Bool.false_eq_true, Bool.not_true, Bool.not_false, Bool.and_true, Bool.true_and, Bool.and_false, Bool.false_and, Bool.or_true, Bool.true_or, Bool.or_false, Bool.false_or, reduceCtorEq, decide_true, decide_false, hw]) (by
        intro x hx
        obtain ⟨i, hi⟩ := List.getElem?_of_mem hx
        obtain ⟨y, hy, rfl⟩ := enumL_at hi
        show (R.ok ([some (.str (mk cs)), some (.lst (nts Q)), some (.int i), some y] : En)).bind _ = _
        by_cases h : i ∈ Q
        · simp -implicitDefEqProofs only [evB, evS, evE, evL, evAnd, evOr, evIfs, evO, evI, part, R_ok_bind, R_ok_map, seq_nx, seq_rt, seq_bk, res_rt, res_nx, lk_0, lk_s, asL_lst, tru_bl, tru_int, cd_non, cd_bl, cd_int, cd_str, ceq_str, cne_str, ceq_int, cne_int, ceq_bl, cne_bl, clt_int, cle_int, cgt_int, cge_int, badd_int, bsub_int, len_lst, len_rol, abs_int, int_int, int_bl, cin_map, cnin_map, List.set_cons_zero, List.set_cons_succ, if_true, if_false, ite_true, ite_false, Bool.false_eq_true, Bool.not_true, Bool.not_false, Bool.and_true, Bool.true_and, Bool.and_false, Bool.false_and, Bool.or_true, Bool.true_or, Bool.or_false, Bool.false_or, reduceCtorEq, decide_true, decide_false, in_nts, keepG, mem_cast, h]
        · simp -implicitDefEqProofs only [evB, evS, evE, evL, evAnd, evOr, evIfs, evO, evI, part, R_ok_bind, R_ok_map, seq_nx, seq_rt, seq_bk, res_rt, res_nx, lk_0, lk_s, asL_lst, tru_bl, tru_int, cd_non, cd_bl, cd_int, cd_str, ceq_str, cne_str, ceq_int, cne_int, ceq_bl, cne_bl, clt_int, cle_int, cgt_int, cge_int, badd_int, bsub_int, len_lst, len_rol, abs_int, int_int, int_bl, cin_map, cnin_map, List.set_cons_zero, List.set_cons_succ, if_true, if_false, ite_true, ite_false, Bool.false_eq_true, Bool.not_true, Bool.not_false, Bool.and_true, Bool.true_and, Bool.and_false, Bool.false_and, Bool.or_true, Bool.true_or, Bool.or_false, Bool.false_or, reduceCtorEq, decide_true, decide_false, in_nts, keepG, mem_cast, h]) (by rw [enumL_ln, List.length_map]; omega)
  have hk := keep_cut Q cs 0
  have hj := join_one (cut Q 0 cs) (lim_le (Nat.le_trans (cut_len Q cs 0) (by omega)))
  rw [show (enumL (cs.map fun c => D.str (mk [c]))).filterMap (keepG Q) = (cut Q 0 cs).map fun c => D.str (mk [c]) from hk] at hc
  show evE (F (k + 2)) _ [some (.str (mk cs)), some (.lst (nts Q)), none, none] = _
  rw [evE, hc, evE, cd_str, l0, R_ok_bind, R_ok_bind, ← hj]
  rfl
/-- the places that close -/
def closeG (cs : List Nat) (h : Int → D) : D → Option D
  | .int i => if cs[i.toNat]? = some 125 then some (h i) else none
  | _ => none
theorem close_len (cs : List Nat) (h : Int → D) : ∀ (u : List Br), (∀ x ∈ u, x ∈ pl 0 false cs) → ((nts (u.map (·.1))).filterMap (closeG cs h)).length = (sg u).count true
  | [], _ => rfl
  | x :: u, hu => by
    have ih := close_len cs h u fun y hy => hu y (List.mem_cons_of_mem _ hy)
    obtain ⟨h1, h2⟩ := pl_char (hu x List.mem_cons_self)
    have h3 : cs[x.1]? = some (if x.2 then 125 else 123) := by rw [List.getElem?_eq_getElem h1, h2]
    obtain ⟨p, c⟩ := x
    simp only [nts, sg, List.map_cons, List.filterMap_cons, closeG, Int.toNat_natCast] at h3 ih ⊢
    cases c with
    | true => simp [h3] at ih ⊢; exact ih
    | false => simp [h3] at ih ⊢; exact ih
theorem close_at {cs : List Nat} {u : List Br} {x : D} (hl : cs.length ≤ 1000) (hu : ∀ x ∈ u, x ∈ pl 0 false cs) (hx : x ∈ nts (u.map (·.1))) : ∃ (i : Nat) (c : Nat), x = .int i ∧ idx (.str (mk cs)) (.int i) = .ok (.str (mk [c])) ∧ cs[i]? = some c := by
  obtain ⟨i, hi, rfl⟩ := List.mem_map.mp hx
  obtain ⟨y, hy, rfl⟩ := List.mem_map.mp hi
  obtain ⟨h1, h2⟩ := pl_char (hu y hy)
  exact ⟨y.1, _, rfl, at_br hl (hu y hy), by rw [List.getElem?_eq_getElem h1, h2]⟩
def clo (cs : List Nat) (e m : Nat) : List Nat := List.replicate e 123 ++ cs ++ (if 0 < m then 10 :: List.replicate m 125 else [])
theorem rep_one (n c : Nat) : (List.replicate n [c]).flatten = List.replicate n c := by
  induction n with
  | zero => rfl
  | succ n ih => rw [List.replicate_succ, List.flatten_cons, ih, List.replicate_succ]; rfl
theorem cnt_len (l : List Bool) : l.count true + l.count false = l.length := by
  induction l with
  | nil => rfl
  | cons b l ih => cases b <;> simp <;> omega
theorem ev_closed (k : Nat) (cs : List Nat) (u : List Br) (hl : cs.length ≤ 1000) (hu : ∀ x ∈ u, x ∈ pl 0 false cs) (hlen : u.length ≤ 1000) (hT : lo [] [] (pl 0 false cs) = u.map (·.1)) :
    F (k + 3) 3 [.str (mk cs)] = .ok (.str (mk (clo cs ((sg u).count true) ((sg u).count false)))) := by
  refine callF_rt (d := d_closed) rfl rfl ?_
  show evB (F (k + 2)) fuel b_closed [some (.str (mk cs)), none, none, none, none, none] = _
  unfold b_closed
  have e1 := ev_loose k cs hl
  rw [hT] at e1
  have hn := cnt_len (sg u)
  have hs : (sg u).length = u.length := by simp [sg]
  have hcl := close_len cs (fun _ => .int 1) u hu
  have ht : (nts (u.map (·.1))).length = u.length := by simp [nts]
  rw [evB_asg (d := .lst (nts (u.map (·.1)))) (by simp -implicitDefEqProofs only [evB, evS, evE, evL, evAnd, evOr, evIfs, evO, evI, part, R_ok_bind, R_ok_map, seq_nx, seq_rt, seq_bk, res_rt, res_nx, lk_0, lk_s, asL_lst, tru_bl, tru_int, cd_non, cd_bl, cd_int, cd_str, ceq_str, cne_str, ceq_int, cne_int, ceq_bl, cne_bl, clt_int, cle_int, cgt_int, cge_int, badd_int, bsub_int, len_lst, len_rol, abs_int, int_int, int_bl, cin_map, cnin_map, List.set_cons_zero, List.set_cons_succ, if_true, if_false, ite_true, ite_false, Bool.false_eq_true, Bool.not_true, Bool.not_false, Bool.and_true, Bool.true_and, Bool.and_false, Bool.false_and, Bool.or_true, Bool.true_or, Bool.or_false, Bool.false_or, reduceCtorEq, decide_true, decide_false, e1])]
  show evB (F (k + 2)) fuel _ [some (.str (mk cs)), some (.lst (nts (u.map (·.1)))), none, none, none, none] = _
  have hc := lc_ev (F := F (k + 2)) (own := [5]) (tg := .v 5) (it := .it (.var 1)) (ifs := .cons (.cmp .eq (.idx (.var 0) (.var 5)) (.glb "CLOSE" (.str "}"))) .nil) (e := .cst (.int 1)) (ρ := [some (.str (mk cs)), some (.lst (nts (u.map (·.1)))), none, none, none, none]) (xs := nts (u.map (·.1))) (closeG cs fun _ => .int 1) (by simp -implicitDefEqProofs only [evB, evS, evE, evL, evAnd, evOr, evIfs, evO, evI, part, R_ok_bind, R_ok_map, seq_nx, seq_rt, seq_bk, res_rt, res_nx, lk_0, lk_s, asL_lst, tru_bl, tru_int, cd_non, cd_bl, cd_int, cd_str, ceq_str, cne_str, ceq_int, cne_int, ceq_bl, cne_bl, clt_int, cle_int, cgt_int, cge_int, badd_int, bsub_int, len_lst, len_rol, abs_int, int_int, int_bl, cin_map, cnin_map, List.set_cons_zero, List.set_cons_succ, if_true, if_false, ite_true, ite_false, Bool.false_eq_true, Bool.not_true, Bool.not_false, Bool.and_true, Bool.true_and, Bool.and_false, Bool.false_and, Bool.or_true, Bool.true_or, Bool.or_false, Bool.false_or, reduceCtorEq, decide_true, decide_false, walk]) (by
        intro x hx
        obtain ⟨i, c, rfl, hi, hc⟩ := close_at hl hu hx
        show (R.ok ([some (.str (mk cs)), some (.lst (nts (u.map (·.1)))), none, none, none, some (.int i)] : En)).bind _ = _
        by_cases h : c = 125
        · subst h
          simp -implicitDefEqProofs only [evB, evS, evE, evL, evAnd, evOr, evIfs, evO, evI, part, R_ok_bind, R_ok_map, seq_nx, seq_rt, seq_bk, res_rt, res_nx, lk_0, lk_s, asL_lst, tru_bl, tru_int, cd_non, cd_bl, cd_int, cd_str, ceq_str, cne_str, ceq_int, cne_int, ceq_bl, cne_bl, clt_int, cle_int, cgt_int, cge_int, badd_int, bsub_int, len_lst, len_rol, abs_int, int_int, int_bl, cin_map, cnin_map, List.set_cons_zero, List.set_cons_succ, if_true, if_false, ite_true, ite_false, Bool.false_eq_true, Bool.not_true, Bool.not_false, Bool.and_true, Bool.true_and, Bool.and_false, Bool.false_and, Bool.or_true, Bool.true_or, Bool.or_false, Bool.false_or, reduceCtorEq, decide_true, decide_false, hi, hc, l125, one_beq, closeG, Int.toNat_natCast]
        · simp -implicitDefEqProofs only [evB, evS, evE, evL, evAnd, evOr, evIfs, evO, evI, part, R_ok_bind, R_ok_map, seq_nx, seq_rt, seq_bk, res_rt, res_nx, lk_0, lk_s, asL_lst, tru_bl, tru_int, cd_non, cd_bl, cd_int, cd_str, ceq_str, cne_str, ceq_int, cne_int, ceq_bl, cne_bl, clt_int, cle_int, cgt_int, cge_int, badd_int, bsub_int, len_lst, len_rol, abs_int, int_int, int_bl, cin_map, cnin_map, List.set_cons_zero, List.set_cons_succ, if_true, if_false, ite_true, ite_false, Bool.false_eq_true, Bool.not_true, Bool.not_false, Bool.and_true, Bool.true_and, Bool.and_false, Bool.false_and, Bool.or_true, Bool.true_or, Bool.or_false, Bool.false_or, reduceCtorEq, decide_true, decide_false, hi, hc, l125, one_beq, closeG, Int.toNat_natCast, h, Option.some.injEq]) (by rw [ht]; omega)
  generalize (sg u).count true = e at hn hcl ⊢
  generalize (sg u).count false = m at hn ⊢
  rw [evB_asg (d := .int e) (by rw [evE, hc, R_ok_bind, len_lst, hcl])]
  show evB (F (k + 2)) fuel _ [some (.str (mk cs)), some (.lst (nts (u.map (·.1)))), some (.int e), none, none, none] = _
  rw [evB_asg (d := .int m) (by
    simp -implicitDefEqProofs only [evB, evS, evE, evL, evAnd, evOr, evIfs, evO, evI, part, R_ok_bind, R_ok_map, seq_nx, seq_rt, seq_bk, res_rt, res_nx, lk_0, lk_s, asL_lst, tru_bl, tru_int, cd_non, cd_bl, cd_int, cd_str, ceq_str, cne_str, ceq_int, cne_int, ceq_bl, cne_bl, clt_int, cle_int, cgt_int, cge_int, badd_int, bsub_int, len_lst, len_rol, abs_int, int_int, int_bl, cin_map, cnin_map, List.set_cons_zero, List.set_cons_succ, if_true, if_false, ite_true, ite_false, Bool.false_eq_true, Bool.not_true, Bool.not_false, Bool.and_true, Bool.true_and, Bool.and_false, Bool.false_and, Bool.or_true, Bool.true_or, Bool.or_false, Bool.false_or, reduceCtorEq, decide_true, decide_false, ht]
    congr 2
    omega), evB_lv]
  show evB (F (k + 2)) fuel _ [some (.str (mk cs)), some (.lst (nts (u.map (·.1)))), some (.int e), some (.int m), none, none] = _
  have m1 := bmul_str [123] e (lim_le (by omega)) (lim_le (by simp only [List.length_cons, List.length_nil]; omega))
  have m2 := bmul_str [125] m (lim_le (by omega)) (lim_le (by simp only [List.length_cons, List.length_nil]; omega))
  rw [rep_one] at m1 m2
  have a1 := badd_str (List.replicate e 123) cs (lim_le (by rw [List.length_replicate]; omega))
  rw [evB_asg (d := .str (mk (List.replicate e 123 ++ cs))) (by simp -implicitDefEqProofs only [evB, evS, evE, evL, evAnd, evOr, evIfs, evO, evI, part, R_ok_bind, R_ok_map, seq_nx, seq_rt, seq_bk, res_rt, res_nx, lk_0, lk_s, asL_lst, tru_bl, tru_int, cd_non, cd_bl, cd_int, cd_str, ceq_str, cne_str, ceq_int, cne_int, ceq_bl, cne_bl, clt_int, cle_int, cgt_int, cge_int, badd_int, bsub_int, len_lst, len_rol, abs_int, int_int, int_bl, cin_map, cnin_map, List.set_cons_zero, List.set_cons_succ, if_true, if_false, ite_true, ite_false, Bool.false_eq_true, Bool.not_true, Bool.not_false, Bool.and_true, Bool.true_and, Bool.and_false, Bool.false_and, Bool.or_true, Bool.true_or, Bool.or_false, Bool.false_or, reduceCtorEq, decide_true, decide_false, l123, m1, a1]), evB_lv]
  show evB (F (k + 2)) fuel _ [some (.str (mk cs)), some (.lst (nts (u.map (·.1)))), some (.int e), some (.int m), some (.str (mk (List.replicate e 123 ++ cs))), none] = _
  refine evB_ret ?_
  have a2 := badd_str (List.replicate e 123 ++ cs) [10] (lim_le (by rw [List.length_append, List.length_replicate]; simp only [List.length_cons, List.length_nil]; omega))
  have a3 := badd_str (List.replicate e 123 ++ cs ++ [10]) (List.replicate m 125) (lim_le (by rw [List.length_append, List.length_append, List.length_replicate, List.length_replicate]; simp only [List.length_cons, List.length_nil]; omega))
  by_cases hm : 0 < m
  · have hm' : (0 : Int) < (m : Int) := by omega
    simp -implicitDefEqProofs only [evB, evS, evE, evL, evAnd, evOr, evIfs, evO, evI, part, R_ok_bind, R_ok_map, seq_nx, seq_rt, seq_bk, res_rt, res_nx, lk_0, lk_s, asL_lst, tru_bl, tru_int, cd_non, cd_bl, cd_int, cd_str, ceq_str, cne_str, ceq_int, cne_int, ceq_bl, cne_bl, clt_int, cle_int, cgt_int, cge_int, badd_int, bsub_int, len_lst, len_rol, abs_int, int_int, int_bl, cin_map, cnin_map, List.set_cons_zero, List.set_cons_succ, if_true, if_false, ite_true, ite_false, Bool.false_eq_true, Bool.not_true, Bool.not_false, Bool.and_true, Bool.true_and, Bool.and_false, Bool.false_and, Bool.or_true, Bool.true_or, Bool.or_false, Bool.false_or, reduceCtorEq, decide_true, decide_false, l10, l125, m2, a2, a3, hm, hm', clo]
    simp
  · have hm' : ¬ (0 : Int) < (m : Int) := by omega
    simp -implicitDefEqProofs only [evB, evS, evE, evL, evAnd, evOr, evIfs, evO, evI, part, R_ok_bind, R_ok_map, seq_nx, seq_rt, seq_bk, res_rt, res_nx, lk_0, lk_s, asL_lst, tru_bl, tru_int, cd_non, cd_bl, cd_int, cd_str, ceq_str, cne_str, ceq_int, cne_int, ceq_bl, cne_bl, clt_int, cle_int, cgt_int, cge_int, badd_int, bsub_int, len_lst, len_rol, abs_int, int_int, int_bl, cin_map, cnin_map, List.set_cons_zero, List.set_cons_succ, if_true, if_false, ite_true, ite_false, Bool.false_eq_true, Bool.not_true, Bool.not_false, Bool.and_true, Bool.true_and, Bool.and_false, Bool.false_and, Bool.or_true, Bool.true_or, Bool.or_false, Bool.false_or, reduceCtorEq, decide_true, decide_false, l10, l125, m2, a2, a3, hm, hm', clo, List.append_nil]
theorem ev_fits (k : Nat) (cs : List Nat) (hl : cs.length ≤ 1000) : F (k + 2) 7 [.str (mk cs)] = .ok (.bl (fits cs)) := by
  refine callF_rt (d := d_law_fits) rfl rfl ?_
  show evB (F (k + 1)) fuel b_law_fits [some (.str (mk cs)), none, none] = _
  unfold b_law_fits fits
  have e1 := ev_lplaces k cs hl
  have mem : ∀ x ∈ pl 0 false cs, x ∈ pl 0 false cs := fun x hx => hx
  generalize hp : pl 0 false cs = l at e1
  rw [hp] at mem
  rw [evB_asg (d := .int 0) (by simp -implicitDefEqProofs only [evB, evS, evE, evL, evAnd, evOr, evIfs, evO, evI, part, R_ok_bind, R_ok_map, seq_nx, seq_rt, seq_bk, res_rt, res_nx, lk_0, lk_s, asL_lst, tru_bl, tru_int, cd_non, cd_bl, cd_int, cd_str, ceq_str, cne_str, ceq_int, cne_int, ceq_bl, cne_bl, clt_int, cle_int, cgt_int, cge_int, badd_int, bsub_int, len_lst, len_rol, abs_int, int_int, int_bl, cin_map, cnin_map, List.set_cons_zero, List.set_cons_succ, if_true, if_false, ite_true, ite_false, Bool.false_eq_true, Bool.not_true, Bool.not_false, Bool.and_true, Bool.true_and, Bool.and_false, Bool.false_and, Bool.or_true, Bool.true_or, Bool.or_false, Bool.false_or, reduceCtorEq, decide_true, decide_false])]
  have two : ([D.int 1, D.int (-1)] : List D).length ≤ LIM := by decide
  have i0 : idx (.lst [.int 1, .int (-1)]) (.int 0) = .ok (.int 1) := by rfl
  have i1 : idx (.lst [.int 1, .int (-1)]) (.int 1) = .ok (.int (-1)) := by rfl
  have n1 : (-1 : Int) = -(1 : Int) := rfl
  refine evB_forR (fun i ρ => ∃ (o : Nat) (o2 : Option D), ρ = [some (.str (mk cs)), some (.int o), o2] ∧ ∀ rest, fitsB 0 (sg (l.take i) ++ rest) = fitsB o rest) (fun d => d = .bl false ∧ fitsB 0 (sg l) = false) (xs := pls l) ?_ ⟨0, none, rfl, fun _ => rfl⟩ ?_ ?_ ?_
  · show evI (F (k + 1)) _ [some (.str (mk cs)), some (.int 0), none] = _
    simp -implicitDefEqProofs only [evB, evS, evE, evL, evAnd, evOr, evIfs, evO, evI, part, R_ok_bind, R_ok_map, seq_nx, seq_rt, seq_bk, res_rt, res_nx, lk_0, lk_s, asL_lst, tru_bl, tru_int, cd_non, cd_bl, cd_int, cd_str, ceq_str, cne_str, ceq_int, cne_int, ceq_bl, cne_bl, clt_int, cle_int, cgt_int, cge_int, badd_int, bsub_int, len_lst, len_rol, abs_int, int_int, int_bl, cin_map, cnin_map, List.set_cons_zero, List.set_cons_succ, if_true, if_false, ite_true, ite_false, Bool.false_eq_true, Bool.not_true, Bool.not_false, Bool.and_true, Bool.true_and, Bool.and_false, Bool.false_and, Bool.or_true, Bool.true_or, Bool.or_false, Bool.false_or, reduceCtorEq, decide_true, decide_false, e1, walk]
  · rintro i x ρ ex ⟨o, o2, rfl, ho⟩
    rw [List.getElem?_map] at ex
    cases ey : l[i]? with
    | none => rw [ey] at ex; cases ex
    | some y =>
      rw [ey] at ex
      obtain rfl : D.int (y.1 : Nat) = x := by simpa using ex
      obtain ⟨hi, hy⟩ := List.getElem?_eq_some_iff.mp ey
      have ix := at_br (x := y) hl (by rw [hp]; exact hy ▸ List.getElem_mem hi)
      have cut : ∀ rest, sg (l.take (i + 1)) ++ rest = sg (l.take i) ++ (y.2 :: rest) := fun rest => by
        rw [List.take_add_one, ey]
        simp [sg]
      obtain ⟨p, c⟩ := y
      refine ⟨_, rfl, ?_⟩
      cases c with
      | false =>
        refine .inl ⟨[some (.str (mk cs)), some (.int ((o + 1 : Nat) : Int)), some (.int p)], ?_, o + 1, some (.int p), rfl, fun rest => by rw [cut, ho]; rfl⟩
        have z : ¬ ((o : Int) + 1 < 0) := by omega
        simp -implicitDefEqProofs only [evB, evS, evE, evL, evAnd, evOr, evIfs, evO, evI, part, R_ok_bind, R_ok_map, seq_nx, seq_rt, seq_bk, res_rt, res_nx, lk_0, lk_s, asL_lst, tru_bl, tru_int, cd_non, cd_bl, cd_int, cd_str, ceq_str, cne_str, ceq_int, cne_int, ceq_bl, cne_bl, clt_int, cle_int, cgt_int, cge_int, badd_int, bsub_int, len_lst, len_rol, abs_int, int_int, int_bl, cin_map, cnin_map, List.set_cons_zero, List.set_cons_succ, if_true, if_false, ite_true, ite_false, Bool.false_eq_true, Bool.not_true, Bool.not_false, Bool.and_true, Bool.true_and, Bool.and_false, Bool.false_and, Bool.or_true, Bool.true_or, Bool.or_false, Bool.false_or, reduceCtorEq, decide_true, decide_false, ix, l125, one_beq, two, n1, i0, z, Nat.reduceEqDiff, Int.natCast_add, Int.cast_ofNat_Int]
      | true =>
        cases o with
        | zero =>
          refine .inr ⟨.bl false, ?_, rfl, ?_⟩
          · have i1' : idx (.lst [.int 1, .int (-1)]) (.int 1) = .ok (.int (-1)) := i1
            simp -implicitDefEqProofs only [evB, evS, evE, evL, evAnd, evOr, evIfs, evO, evI, part, R_ok_bind, R_ok_map, seq_nx, seq_rt, seq_bk, res_rt, res_nx, lk_0, lk_s, asL_lst, tru_bl, tru_int, cd_non, cd_bl, cd_int, cd_str, ceq_str, cne_str, ceq_int, cne_int, ceq_bl, cne_bl, clt_int, cle_int, cgt_int, cge_int, badd_int, bsub_int, len_lst, len_rol, abs_int, int_int, int_bl, cin_map, cnin_map, List.set_cons_zero, List.set_cons_succ, if_true, if_false, ite_true, ite_false, Bool.false_eq_true, Bool.not_true, Bool.not_false, Bool.and_true, Bool.true_and, Bool.and_false, Bool.false_and, Bool.or_true, Bool.true_or, Bool.or_false, Bool.false_or, reduceCtorEq, decide_true, decide_false, ix, l125, one_beq, two, i1', Int.natCast_zero, Int.zero_add, Int.reduceLT, Int.cast_ofNat_Int, Int.reduceAdd, Int.reduceNeg]
          · have e : sg l = sg (l.take i) ++ (true :: sg (l.drop (i + 1))) := by
              have : l = l.take i ++ l[i] :: l.drop (i + 1) := by rw [← List.drop_eq_getElem_cons hi, List.take_append_drop]
              have q := congrArg sg this
              rw [q]
              simp [sg, hy]
            rw [e, ho]
            rfl
        | succ o =>
          refine .inl ⟨[some (.str (mk cs)), some (.int (o : Int)), some (.int p)], ?_, o, some (.int p), rfl, fun rest => by rw [cut, ho]; rfl⟩
          have i1' : idx (.lst [.int 1, .int (-1)]) (.int 1) = .ok (.int (-1)) := i1
          have z : ¬ ((o : Int) < 0) := by omega
          have z2 : ((o + 1 : Nat) : Int) + -1 = (o : Int) := by omega
          simp -implicitDefEqProofs only [evB, evS, evE, evL, evAnd, evOr, evIfs, evO, evI, part, R_ok_bind, R_ok_map, seq_nx, seq_rt, seq_bk, res_rt, res_nx, lk_0, lk_s, asL_lst, tru_bl, tru_int, cd_non, cd_bl, cd_int, cd_str, ceq_str, cne_str, ceq_int, cne_int, ceq_bl, cne_bl, clt_int, cle_int, cgt_int, cge_int, badd_int, bsub_int, len_lst, len_rol, abs_int, int_int, int_bl, cin_map, cnin_map, List.set_cons_zero, List.set_cons_succ, if_true, if_false, ite_true, ite_false, Bool.false_eq_true, Bool.not_true, Bool.not_false, Bool.and_true, Bool.true_and, Bool.and_false, Bool.false_and, Bool.or_true, Bool.true_or, Bool.or_false, Bool.false_or, reduceCtorEq, decide_true, decide_false, ix, l125, one_beq, two, i1', z, z2, Int.reduceNeg]
  · rintro ρ' ⟨o, o2, rfl, ho⟩
    have := ho []
    rw [List.append_nil, List.length_map, List.take_length] at this
    rw [this]
    refine evB_ret ?_
    simp -implicitDefEqProofs only [evB, evS, evE, evL, evAnd, evOr, evIfs, evO, evI, part, R_ok_bind, R_ok_map, seq_nx, seq_rt, seq_bk, res_rt, res_nx, lk_0, lk_s, asL_lst, tru_bl, tru_int, cd_non, cd_bl, cd_int, cd_str, ceq_str, cne_str, ceq_int, cne_int, ceq_bl, cne_bl, clt_int, cle_int, cgt_int, cge_int, badd_int, bsub_int, len_lst, len_rol, abs_int, int_int, int_bl, cin_map, cnin_map, List.set_cons_zero, List.set_cons_succ, if_true, if_false, ite_true, ite_false, Bool.false_eq_true, Bool.not_true, Bool.not_false, Bool.and_true, Bool.true_and, Bool.and_false, Bool.false_and, Bool.or_true, Bool.true_or, Bool.or_false, Bool.false_or, reduceCtorEq, decide_true, decide_false, fitsB]
    congr 2
    cases o with
    | zero => rfl
    | succ o => simp; omega
  · rintro d ⟨rfl, h⟩
    rw [h]
theorem pls_len (l : List Br) : (pls l).length = l.length := List.length_map _
theorem pls_at {l : List Br} {i : Nat} (h : i < l.length) : idx (.lst (pls l)) (.int i) = .ok (.int (l[i].1 : Nat)) := by
  rw [idx_lst (by rw [pls_len]; exact h)]
  simp [pls]
abbrev inner : List Sm := [.ite (.and (.not (.var 2)) (.cons (.cmp .eq (.idx (.var 0) (.idx (.var 1) (.bin .sub (.var 3) (.cst (.int 1))))) (.cst (.str "{"))) (.cons (.cmp .eq (.idx (.var 0) (.idx (.var 1) (.var 3))) (.cst (.str "}"))) .nil))) [.asg 1 (.bin .add (.slc (.var 1) .no (.so (.bin .sub (.var 3) (.cst (.int 1))))) (.slc (.var 1) (.so (.bin .add (.var 3) (.cst (.int 1)))) .no)), .asg 2 (.cst (.bl true))] []]
abbrev outer : List Sm := [.asg 2 (.cst (.bl false)), .for [0, 1, 99, 0] (.v 3) (.rg2 (.cst (.int 1)) (.c1 .len (.var 1))) inner]
/-- one turn of the outer loop -/
theorem ev_turn (k : Nat) (cs : List Nat) (l : List Br) (o3 : Option D) (hl : cs.length ≤ 1000) (mem : ∀ x ∈ l, x ∈ pl 0 false cs) (hll : l.length ≤ 1000) :
    ∃ o3', (evB (F k) fuel outer
      [some (.str (mk cs)), some (.lst (pls l)), some (.bl true), o3] = .ok (.nx [some (.str (mk cs)), some (.lst (pls l)), some (.bl false), o3']) ∧ NoPair l) ∨
    (∃ a p q b, l = a ++ (p, false) :: (q, true) :: b ∧ evB (F k) fuel outer
      [some (.str (mk cs)), some (.lst (pls l)), some (.bl true), o3] = .ok (.nx [some (.str (mk cs)), some (.lst (pls (a ++ b))), some (.bl true), o3'])) := by
  obtain ⟨ρ', e, h⟩ := for_inv (tg := .v 3) (b := evB (F k) fuel inner) (xs := rngL 1 l.length) (ρ := [some (.str (mk cs)), some (.lst (pls l)), some (.bl false), o3])
    (fun i ρ => ∃ o, (ρ = [some (.str (mk cs)), some (.lst (pls l)), some (.bl false), o] ∧ ∀ j (x y : Br), j < i → l[j]? = some x → l[j + 1]? = some y → ¬ (x.2 = false ∧ y.2 = true)) ∨ (∃ a p q b, l = a ++ (p, false) :: (q, true) :: b ∧ ρ = [some (.str (mk cs)), some (.lst (pls (a ++ b))), some (.bl true), o]))
    ⟨o3, .inl ⟨rfl, fun j x y h => absurd h (Nat.not_lt_zero _)⟩⟩ (by
      rintro i x ρ ex ⟨o, ⟨rfl, hn⟩ | ⟨a, p, q, b, hl2, rfl⟩⟩
      · obtain ⟨hi, rfl⟩ := rngL1_get ex
        have hi0 : i < l.length := by omega
        have t1 : ((i + 1 : Nat) : Int) - 1 = (i : Int) := by omega
        have t2 : ((i + 1 : Nat) : Int) + 1 = ((i + 2 : Nat) : Int) := by omega
        have x1 := pls_at hi0
        have x2 := pls_at hi
        have y1 := at_br hl (mem l[i] (List.getElem_mem hi0))
        have y2 := at_br hl (mem l[i + 1] (List.getElem_mem hi))
        have s1 : slc (.lst (pls l)) none (some (i : Int)) = .ok (.lst ((pls l).take i)) := by simp only [slc]; rw [cut_take (by rw [pls_len]; omega)]
        have s2 : slc (.lst (pls l)) (some ((i + 2 : Nat) : Int)) none = .ok (.lst ((pls l).drop (i + 2))) := by simp only [slc]; rw [cut_drop (by rw [pls_len]; omega)]
        have hb : ((pls l).take i).length + ((pls l).drop (i + 2)).length ≤ LIM := by
          rw [List.length_take, List.length_drop, pls_len]
          exact lim_le (by omega)
        have whole : l = l.take i ++ l[i] :: l[i + 1] :: l.drop (i + 2) := by
          rw [← List.drop_eq_getElem_cons hi, ← List.drop_eq_getElem_cons hi0, List.take_append_drop]
        generalize h1 : l[i] = u at x1 y1 whole
        generalize h2 : l[i + 1] = v at x2 y2 whole
        obtain ⟨p, c⟩ := u
        obtain ⟨q, d⟩ := v
        by_cases hc : c = false ∧ d = true
        · obtain ⟨rfl, rfl⟩ := hc
          refine ⟨_, [some (.str (mk cs)), some (.lst (pls (l.take i ++ l.drop (i + 2)))), some (.bl true), some (.int ((i + 1 : Nat) : Int))], rfl, ?_, some (.int ((i + 1 : Nat) : Int)), .inr ⟨_, p, q, _, whole, rfl⟩⟩
          simp -implicitDefEqProofs only [evB, evS, evE, evL, evAnd, evOr, evIfs, evO, evI, part, R_ok_bind, R_ok_map, seq_nx, seq_rt, seq_bk, res_rt, res_nx, lk_0, lk_s, asL_lst, tru_bl, tru_int, cd_non, cd_bl, cd_int, cd_str, ceq_str, cne_str, ceq_int, cne_int, ceq_bl, cne_bl, clt_int, cle_int, cgt_int, cge_int, badd_int, bsub_int, len_lst, len_rol, abs_int, int_int, int_bl, cin_map, cnin_map, List.set_cons_zero, List.set_cons_succ, if_true, if_false, ite_true, ite_false, Bool.false_eq_true, Bool.not_true, Bool.not_false, Bool.and_true, Bool.true_and, Bool.and_false, Bool.false_and, Bool.or_true, Bool.true_or, Bool.or_false, Bool.false_or, reduceCtorEq, decide_true, decide_false, t1, t2, x1, x2, y1, y2, l123, l125, one_beq, s1, s2, badd_lst _ _ hb, pls, List.map_append, List.map_take, List.map_drop]
        · refine ⟨_, [some (.str (mk cs)), some (.lst (pls l)), some (.bl false), some (.int ((i + 1 : Nat) : Int))], rfl, ?_, some (.int ((i + 1 : Nat) : Int)), .inl ⟨rfl, fun j x y hj hx hy => ?_⟩⟩
          · cases c with
            | true => simp -implicitDefEqProofs only [evB, evS, evE, evL, evAnd, evOr, evIfs, evO, evI, part, R_ok_bind, R_ok_map, seq_nx, seq_rt, seq_bk, res_rt, res_nx, lk_0, lk_s, asL_lst, tru_bl, tru_int, cd_non, cd_bl, cd_int, cd_str, ceq_str, cne_str, ceq_int, cne_int, ceq_bl, cne_bl, clt_int, cle_int, cgt_int, cge_int, badd_int, bsub_int, len_lst, len_rol, abs_int, int_int, int_bl, cin_map, cnin_map, List.set_cons_zero, List.set_cons_succ, if_true, if_false, ite_true, ite_false, Bool.false_eq_true, Bool.not_true, Bool.not_false, Bool.and_true, Bool.true_and, Bool.and_false, Bool.false_and, Bool.or_true, Bool.true_or, Bool.or_false, Bool.false_or, reduceCtorEq, decide_true, decide_false, t1, t2, x1, x2, y1, y2, l123, l125, one_beq, Nat.reduceEqDiff]
            | false =>
              cases d with
              | true => exact absurd ⟨rfl, rfl⟩ hc
              | false => simp -implicitDefEqProofs only [evB, evS, evE, evL, evAnd, evOr, evIfs, evO, evI, part, R_ok_bind, R_ok_map, seq_nx, seq_rt, seq_bk, res_rt, res_nx, lk_0, lk_s, asL_lst, tru_bl, tru_int, cd_non, cd_bl, cd_int, cd_str, ceq_str, cne_str, ceq_int, cne_int, ceq_bl, cne_bl, clt_int, cle_int, cgt_int, cge_int, badd_int, bsub_int, len_lst, len_rol, abs_int, int_int, int_bl, cin_map, cnin_map, List.set_cons_zero, List.set_cons_succ, if_true, if_false, ite_true, ite_false, Bool.false_eq_true, Bool.not_true, Bool.not_false, Bool.and_true, Bool.true_and, Bool.and_false, Bool.false_and, Bool.or_true, Bool.true_or, Bool.or_false, Bool.false_or, reduceCtorEq, decide_true, decide_false, t1, t2, x1, x2, y1, y2, l123, l125, one_beq, Nat.reduceEqDiff]
          · by_cases hji : j = i
            · subst hji
              rw [List.getElem?_eq_getElem hi0, h1] at hx
              rw [List.getElem?_eq_getElem hi, h2] at hy
              cases hx
              cases hy
              exact hc
            · exact hn j x y (by omega) hx hy
      · refine ⟨_, [some (.str (mk cs)), some (.lst (pls (a ++ b))), some (.bl true), some x], rfl, ?_, some x, .inr ⟨a, p, q, b, hl2, rfl⟩⟩
        simp -implicitDefEqProofs only [evB, evS, evE, evL, evAnd, evOr, evIfs, evO, evI, part, R_ok_bind, R_ok_map, seq_nx, seq_rt, seq_bk, res_rt, res_nx, lk_0, lk_s, asL_lst, tru_bl, tru_int, cd_non, cd_bl, cd_int, cd_str, ceq_str, cne_str, ceq_int, cne_int, ceq_bl, cne_bl, clt_int, cle_int, cgt_int, cge_int, badd_int, bsub_int, len_lst, len_rol, abs_int, int_int, int_bl, cin_map, cnin_map, List.set_cons_zero, List.set_cons_succ, if_true, if_false, ite_true, ite_false, Bool.false_eq_true, Bool.not_true, Bool.not_false, Bool.and_true, Bool.true_and, Bool.and_false, Bool.false_and, Bool.or_true, Bool.true_or, Bool.or_false, Bool.false_or, reduceCtorEq, decide_true, decide_false])
  have hr : evI (F k) (.rg2 (.cst (.int 1)) (.c1 .len (.var 1))) [some (.str (mk cs)), some (.lst (pls l)), some (.bl false), o3] = .ok (rngL 1 l.length) := by
    simp -implicitDefEqProofs only [evB, evS, evE, evL, evAnd, evOr, evIfs, evO, evI, part, R_ok_bind, R_ok_map, seq_nx, seq_rt, seq_bk, res_rt, res_nx, lk_0, lk_s, asL_lst, tru_bl, tru_int, cd_non, cd_bl, cd_int, cd_str, ceq_str, cne_str, ceq_int, cne_int, ceq_bl, cne_bl, clt_int, cle_int, cgt_int, cge_int, badd_int, bsub_int, len_lst, len_rol, abs_int, int_int, int_bl, cin_map, cnin_map, List.set_cons_zero, List.set_cons_succ, if_true, if_false, ite_true, ite_false, Bool.false_eq_true, Bool.not_true, Bool.not_false, Bool.and_true, Bool.true_and, Bool.and_false, Bool.false_and, Bool.or_true, Bool.true_or, Bool.or_false, Bool.false_or, reduceCtorEq, decide_true, decide_false, pls_len, rngD_one l.length (by omega)]
  have all : evB (F k) fuel outer [some (.str (mk cs)), some (.lst (pls l)), some (.bl true), o3] = .ok (.nx ρ') := by
    rw [evB_asg (d := .bl false) (by simp -implicitDefEqProofs only [evB, evS, evE, evL, evAnd, evOr, evIfs, evO, evI, part, R_ok_bind, R_ok_map, seq_nx, seq_rt, seq_bk, res_rt, res_nx, lk_0, lk_s, asL_lst, tru_bl, tru_int, cd_non, cd_bl, cd_int, cd_str, ceq_str, cne_str, ceq_int, cne_int, ceq_bl, cne_bl, clt_int, cle_int, cgt_int, cge_int, badd_int, bsub_int, len_lst, len_rol, abs_int, int_int, int_bl, cin_map, cnin_map, List.set_cons_zero, List.set_cons_succ, if_true, if_false, ite_true, ite_false, Bool.false_eq_true, Bool.not_true, Bool.not_false, Bool.and_true, Bool.true_and, Bool.and_false, Bool.false_and, Bool.or_true, Bool.true_or, Bool.or_false, Bool.false_or, reduceCtorEq, decide_true, decide_false])]
    rw [evB_nx (ρ1 := ρ') (by
      show evS (F k) fuel (.for [0, 1, 99, 0] (.v 3) (.rg2 (.cst (.int 1)) (.c1 .len (.var 1))) inner) [some (.str (mk cs)), some (.lst (pls l)), some (.bl false), o3] = _
      exact (evS_forE hr).trans e)]
    exact evB_nil
  obtain ⟨o, ⟨rfl, hn⟩ | ⟨a, p, q, b, hl2, rfl⟩⟩ := h
  · refine ⟨o, .inl ⟨all, fun j x y hx hy => hn j x y ?_ hx hy⟩⟩
    have h1 := (List.getElem?_eq_some_iff.mp hy).1
    have : (rngL 1 l.length).length = ((l.length : Int) - 1).toNat := by simp [rngL]
    omega
  · exact ⟨o, .inr ⟨a, p, q, b, hl2, all⟩⟩
theorem ev_while (k : Nat) (cs : List Nat) (hl : cs.length ≤ 1000) : ∀ (n : Nat) (l : List Br) (o3 : Option D), l.length < 2 * n → l.length ≤ 1000 → (∀ x ∈ l, x ∈ pl 0 false cs) → ∃ u o3', Red l u ∧ NoPair u ∧
    whGo (fun ρ => (evE (F k) (.var 2) ρ).bind tru) (evB (F k) fuel outer) (n + 1)
      [some (.str (mk cs)), some (.lst (pls l)), some (.bl true), o3] = .ok (.nx [some (.str (mk cs)), some (.lst (pls u)), some (.bl false), o3'])
  | 0, l, o3, h, _, _ => absurd h (by omega)
  | n + 1, l, o3, h, hll, mem => by
    obtain ⟨o3', ⟨e, np⟩ | ⟨a, p, q, b, rfl, e⟩⟩ := ev_turn k cs l o3 hl mem hll
    · refine ⟨l, o3', .refl l, np, ?_⟩
      rw [whGo_t (by simp -implicitDefEqProofs only [evE, lk_0, lk_s, R_ok_bind, tru_bl]) e]
      exact whGo_f (by simp -implicitDefEqProofs only [evE, lk_0, lk_s, R_ok_bind, tru_bl])
    · obtain ⟨u, o4, h1, h2, h3⟩ := ev_while k cs hl n (a ++ b) o3' (by simp only [List.length_append, List.length_cons] at h ⊢; omega) (by simp only [List.length_append, List.length_cons] at hll ⊢; omega) (fun x hx => mem x (by
        simp only [List.mem_append, List.mem_cons] at hx ⊢
        exact hx.imp id fun z => .inr (.inr z)))
      refine ⟨u, o4, .step h1, h2, ?_⟩
      rw [whGo_t (by simp -implicitDefEqProofs only [evE, lk_0, lk_s, R_ok_bind, tru_bl]) e]
      exact h3
theorem ev_lloose (k : Nat) (cs : List Nat) (hl : cs.length ≤ 100) : ∃ u, Red (pl 0 false cs) u ∧ NoPair u ∧ F (k + 2) 8 [.str (mk cs)] = .ok (.lst (pls u)) := by
  have hp := pl_len cs 0 false
  obtain ⟨u, o3', h1, h2, h3⟩ := ev_while (k + 1) cs (by omega) 99 (pl 0 false cs) none (by omega) (by omega) fun x hx => hx
  refine ⟨u, h1, h2, callF_rt (d := d_law_loose) rfl rfl ?_⟩
  show evB (F (k + 1)) fuel b_law_loose [some (.str (mk cs)), none, none, none] = _
  unfold b_law_loose
  have e1 := ev_lplaces k cs (by omega)
  rw [evB_asg (d := .lst (pls (pl 0 false cs))) (by simp -implicitDefEqProofs only [evB, evS, evE, evL, evAnd, evOr, evIfs, evO, evI, part, R_ok_bind, R_ok_map, seq_nx, seq_rt, seq_bk, res_rt, res_nx, lk_0, lk_s, asL_lst, tru_bl, tru_int, cd_non, cd_bl, cd_int, cd_str, ceq_str, cne_str, ceq_int, cne_int, ceq_bl, cne_bl, clt_int, cle_int, cgt_int, cge_int, badd_int, bsub_int, len_lst, len_rol, abs_int, int_int, int_bl, cin_map, cnin_map, List.set_cons_zero, List.set_cons_succ, if_true, if_false, ite_true, ite_false, Bool.false_eq_true, Bool.not_true, Bool.not_false, Bool.and_true, Bool.true_and, Bool.and_false, Bool.false_and, Bool.or_true, Bool.true_or, Bool.or_false, Bool.false_or, reduceCtorEq, decide_true, decide_false, e1]), evB_asg (d := .bl true) (by simp -implicitDefEqProofs only [evB, evS, evE, evL, evAnd, evOr, evIfs, evO, evI, part, R_ok_bind, R_ok_map, seq_nx, seq_rt, seq_bk, res_rt, res_nx, lk_0, lk_s, asL_lst, tru_bl, tru_int, cd_non, cd_bl, cd_int, cd_str, ceq_str, cne_str, ceq_int, cne_int, ceq_bl, cne_bl, clt_int, cle_int, cgt_int, cge_int, badd_int, bsub_int, len_lst, len_rol, abs_int, int_int, int_bl, cin_map, cnin_map, List.set_cons_zero, List.set_cons_succ, if_true, if_false, ite_true, ite_false, Bool.false_eq_true, Bool.not_true, Bool.not_false, Bool.and_true, Bool.true_and, Bool.and_false, Bool.false_and, Bool.or_true, Bool.true_or, Bool.or_false, Bool.false_or, reduceCtorEq, decide_true, decide_false])]
  show evB (F (k + 1)) fuel [.wh [0, 1, 99, 0] (.var 2) outer, .ret (.var 1)] [some (.str (mk cs)), some (.lst (pls (pl 0 false cs))), some (.bl true), none] = _
  rw [evB_nx (ρ1 := [some (.str (mk cs)), some (.lst (pls u)), some (.bl false), o3']) (evS_whE.trans h3)]
  refine evB_ret ?_
  simp -implicitDefEqProofs only [evB, evS, evE, evL, evAnd, evOr, evIfs, evO, evI, part, R_ok_bind, R_ok_map, seq_nx, seq_rt, seq_bk, res_rt, res_nx, lk_0, lk_s, asL_lst, tru_bl, tru_int, cd_non, cd_bl, cd_int, cd_str, ceq_str, cne_str, ceq_int, cne_int, ceq_bl, cne_bl, clt_int, cle_int, cgt_int, cge_int, badd_int, bsub_int, len_lst, len_rol, abs_int, int_int, int_bl, cin_map, cnin_map, List.set_cons_zero, List.set_cons_succ, if_true, if_false, ite_true, ite_false, Bool.false_eq_true, Bool.not_true, Bool.not_false, Bool.and_true, Bool.true_and, Bool.and_false, Bool.false_and, Bool.or_true, Bool.true_or, Bool.or_false, Bool.false_or, reduceCtorEq, decide_true, decide_false]
end K04
end TW

/-! the law's own numbers -/
namespace TW
namespace K04
open PySem PySem.Spec PyProof.Rows L2
theorem nts_snoc (ds : List Nat) (v : Int) (h : 0 ≤ v) : nts ds ++ [D.int v] = nts (ds ++ [v.toNat]) := by
  simp [nts, Int.toNat_of_nonneg h]
theorem mod_in (x m : Int) (h : 0 < m) : 0 ≤ x.fmod m ∧ x.fmod m < m := ⟨Int.fmod_nonneg_of_pos x h, Int.fmod_lt_of_pos x h⟩
theorem bpow : bin .pow (.int 10) (.int 18) = .ok (.int 1000000000000000000) := by rfl
theorem min63 (n : Nat) (h : n ≤ 63) : call2 .min (.int 63) (.int n) = .ok (.int n) := by
  simp only [call2]
  congr 2
  split <;> omega
theorem small_snoc {ds : List Nat} {v : Int} (h : ∀ d ∈ ds, d < 65536) (h1 : 0 ≤ v) (h2 : v < 65536) : ∀ d ∈ ds ++ [v.toNat], d < 65536 := fun d hd => by
  rcases List.mem_append.mp hd with z | z
  · exact h d z
  · simp only [List.mem_singleton] at z
    omega
theorem ev_draws (k : Nat) (ns : List Int) (hl : ns.length ≤ 63) : ∃ ds : List Nat, (∀ d ∈ ds, d < 65536) ∧ ds.length ≤ 3780 ∧ F (k + 1) 4 [.rol (ns.map .int)] = .ok (.lst (nts ds)) := by
  have m1 : ∀ x, bin .mul (.int x) (.int 48271) = .ok (.int (x * 48271)) := fun x => bmul_int x _ (.inr ⟨by decide, by decide⟩)
  have m2 : ∀ x, bin .mul (.int x) (.int 69621) = .ok (.int (x * 69621)) := fun x => bmul_int x _ (.inr ⟨by decide, by decide⟩)
  have m3 : ∀ x, bin .mul (.int x) (.int 16807) = .ok (.int (x * 16807)) := fun x => bmul_int x _ (.inr ⟨by decide, by decide⟩)
  have m4 : ∀ x, bin .mul (.int 11) (.int x) = .ok (.int (11 * x)) := fun x => bmul_int _ x (.inl ⟨by decide, by decide⟩)
  have q1 : ∀ x, bin .mod (.int x) (.int 65536) = .ok (.int (x.fmod 65536)) := fun x => bmod_int x _ (by decide)
  have q2 : ∀ x, bin .mod (.int x) (.int 2147483647) = .ok (.int (x.fmod 2147483647)) := fun x => bmod_int x _ (by decide)
  have q3 : ∀ x, bin .mod (.int x) (.int 2147483629) = .ok (.int (x.fmod 2147483629)) := fun x => bmod_int x _ (by decide)
  have q4 : ∀ x, bin .mod (.int x) (.int 32768) = .ok (.int (x.fmod 32768)) := fun x => bmod_int x _ (by decide)
  have d1 : ∀ x, bin .fdiv (.int x) (.int 65536) = .ok (.int (x.fdiv 65536)) := fun x => bdiv_int x _ ⟨by decide, by decide⟩
  have main : ∃ ds : List Nat, (∀ d ∈ ds, d < 65536) ∧ ds.length ≤ 3780 ∧ evB (F k) fuel b_law_draws [some (.rol (ns.map .int)), none, none, none, none, none] = .ok (.rt (.lst (nts ds))) := by
    unfold b_law_draws
    have hlen : (ns.map D.int).length = ns.length := List.length_map _
    have hr : evI (F k) (.rg1 (.c2 .min (.cst (.int 63)) (.c1 .len (.var 0)))) [some (.rol (ns.map .int)), some (.lst []), none, none, none, none] = .ok (rngL 0 ns.length) := by
      simp -implicitDefEqProofs only [evB, evS, evE, evL, evAnd, evOr, evIfs, evO, evI, part, R_ok_bind, R_ok_map, seq_nx, seq_rt, seq_bk, res_rt, res_nx, lk_0, lk_s, asL_lst, tru_bl, tru_int, cd_non, cd_bl, cd_int, cd_str, ceq_str, cne_str, ceq_int, cne_int, ceq_bl, cne_bl, clt_int, cle_int, cgt_int, cge_int, badd_int, bsub_int, len_lst, len_rol, abs_int, int_int, int_bl, cin_map, cnin_map, List.set_cons_zero, List.set_cons_succ, if_true, if_false, ite_true, ite_false, Bool.false_eq_true, Bool.not_true, Bool.not_false, Bool.and_true, Bool.true_and, Bool.and_false, Bool.false_and, Bool.or_true, Bool.true_or, Bool.or_false, Bool.false_or, reduceCtorEq, decide_true, decide_false, hlen, min63 ns.length hl, rngD_nat ns.length (by omega)]
    rw [evB_asg (d := .lst []) (by simp -implicitDefEqProofs only [evB, evS, evE, evL, evAnd, evOr, evIfs, evO, evI, part, R_ok_bind, R_ok_map, seq_nx, seq_rt, seq_bk, res_rt, res_nx, lk_0, lk_s, asL_lst, tru_bl, tru_int, cd_non, cd_bl, cd_int, cd_str, ceq_str, cne_str, ceq_int, cne_int, ceq_bl, cne_bl, clt_int, cle_int, cgt_int, cge_int, badd_int, bsub_int, len_lst, len_rol, abs_int, int_int, int_bl, cin_map, cnin_map, List.set_cons_zero, List.set_cons_succ, if_true, if_false, ite_true, ite_false, Bool.false_eq_true, Bool.not_true, Bool.not_false, Bool.and_true, Bool.true_and, Bool.and_false, Bool.false_and, Bool.or_true, Bool.true_or, Bool.or_false, Bool.false_or, reduceCtorEq, decide_true, decide_false, List.length_nil, Nat.zero_le])]
    obtain ⟨ρ', e, ds, o2, o3, o4, o5, rfl, hs, hd⟩ := for_inv (tg := .v 2) (b := evB (F k) fuel [.asg 3 (.c1 .abs (.idx (.var 0) (.var 2))), .ite (.cmp .ge (.var 3) (.bin .pow (.cst (.int 10)) (.cst (.int 18)))) [.for [0, 99, 0, 99, 0, 0] (.v 4) (.rg1 (.cst (.int 60))) [.ite (.cmp .gt (.var 3) (.cst (.int 0))) [.app 1 (.bin .mod (.c1 .int (.var 3)) (.cst (.int 65536))), .asg 3 (.bin .fdiv (.var 3) (.cst (.int 65536)))] []]] [.asg 5 (.bin .mod (.c1 .int (.bin .add (.bin .mul (.var 3) (.cst (.int 48271))) (.bin .mul (.bin .add (.var 2) (.cst (.int 1))) (.cst (.int 69621))))) (.cst (.int 2147483647))), .asg 5 (.bin .mod (.c1 .int (.bin .add (.bin .add (.bin .mul (.var 5) (.cst (.int 16807))) (.bin .mul (.cst (.int 11)) (.var 2))) (.cst (.int 5)))) (.cst (.int 2147483629))), .app 1 (.bin .mod (.c1 .int (.var 5)) (.cst (.int 65536))), .app 1 (.bin .mod (.c1 .int (.bin .fdiv (.var 5) (.cst (.int 65536)))) (.cst (.int 32768)))]])
      (xs := rngL 0 ns.length) (ρ := [some (.rol (ns.map .int)), some (.lst []), none, none, none, none])
      (fun i ρ => ∃ (ds : List Nat) (o2 o3 o4 o5 : Option D), ρ = [some (.rol (ns.map .int)), some (.lst (nts ds)), o2, o3, o4, o5] ∧ (∀ d ∈ ds, d < 65536) ∧ ds.length ≤ 60 * i) ⟨[], none, none, none, none, rfl, by simp, by simp⟩ (by
        rintro i x ρ ex ⟨ds, o2, o3, o4, o5, rfl, hs, hd⟩
        obtain ⟨hi, rfl⟩ := rngL_get ex
        have ix := idx_rol (xs := ns.map D.int) (k := i) (by rw [hlen]; exact hi)
        rw [List.getElem_map] at ix
        generalize ns[i] = v at ix
        have ha : 0 ≤ (if v < 0 then -v else v) := by split <;> omega
        generalize hab : (if v < 0 then -v else v) = a at ha
        have step1 : ∀ ss, evB (F k) fuel (.asg 3 (.c1 .abs (.idx (.var 0) (.var 2))) :: ss) [some (.rol (ns.map .int)), some (.lst (nts ds)), some (.int i), o3, o4, o5] = evB (F k) fuel ss [some (.rol (ns.map .int)), some (.lst (nts ds)), some (.int i), some (.int a), o4, o5] := fun ss => by
          rw [evB_asg (d := .int a) (by simp -implicitDefEqProofs only [evB, evS, evE, evL, evAnd, evOr, evIfs, evO, evI, part, R_ok_bind, R_ok_map, seq_nx, seq_rt, seq_bk, res_rt, res_nx, lk_0, lk_s, asL_lst, tru_bl, tru_int, cd_non, cd_bl, cd_int, cd_str, ceq_str, cne_str, ceq_int, cne_int, ceq_bl, cne_bl, clt_int, cle_int, cgt_int, cge_int, badd_int, bsub_int, len_lst, len_rol, abs_int, int_int, int_bl, cin_map, cnin_map, List.set_cons_zero, List.set_cons_succ, if_true, if_false, ite_true, ite_false, Bool.false_eq_true, Bool.not_true, Bool.not_false, Bool.and_true, Bool.true_and, Bool.and_false, Bool.false_and, Bool.or_true, Bool.true_or, Bool.or_false, Bool.false_or, reduceCtorEq, decide_true, decide_false, ix, hab])]
          rfl
        have hc : evE (F k) (.cmp .ge (.var 3) (.bin .pow (.cst (.int 10)) (.cst (.int 18)))) [some (.rol (ns.map .int)), some (.lst (nts ds)), some (.int i), some (.int a), o4, o5] = .ok (.bl (decide (1000000000000000000 ≤ a))) := by
          simp -implicitDefEqProofs only [evB, evS, evE, evL, evAnd, evOr, evIfs, evO, evI, part, R_ok_bind, R_ok_map, seq_nx, seq_rt, seq_bk, res_rt, res_nx, lk_0, lk_s, asL_lst, tru_bl, tru_int, cd_non, cd_bl, cd_int, cd_str, ceq_str, cne_str, ceq_int, cne_int, ceq_bl, cne_bl, clt_int, cle_int, cgt_int, cge_int, badd_int, bsub_int, len_lst, len_rol, abs_int, int_int, int_bl, cin_map, cnin_map, List.set_cons_zero, List.set_cons_succ, if_true, if_false, ite_true, ite_false, Bool.false_eq_true, Bool.not_true, Bool.not_false, Bool.and_true, Bool.true_and, Bool.and_false, Bool.false_and, Bool.or_true, Bool.true_or, Bool.or_false, Bool.false_or, reduceCtorEq, decide_true, decide_false, bpow]
        by_cases hbig : 1000000000000000000 ≤ a
        · rw [decide_eq_true hbig] at hc
          have h60 : evI (F k) (.rg1 (.cst (.int 60))) [some (.rol (ns.map .int)), some (.lst (nts ds)), some (.int i), some (.int a), o4, o5] = .ok (rngL 0 60) := by
            simp -implicitDefEqProofs only [evB, evS, evE, evL, evAnd, evOr, evIfs, evO, evI, part, R_ok_bind, R_ok_map, seq_nx, seq_rt, seq_bk, res_rt, res_nx, lk_0, lk_s, asL_lst, tru_bl, tru_int, cd_non, cd_bl, cd_int, cd_str, ceq_str, cne_str, ceq_int, cne_int, ceq_bl, cne_bl, clt_int, cle_int, cgt_int, cge_int, badd_int, bsub_int, len_lst, len_rol, abs_int, int_int, int_bl, cin_map, cnin_map, List.set_cons_zero, List.set_cons_succ, if_true, if_false, ite_true, ite_false, Bool.false_eq_true, Bool.not_true, Bool.not_false, Bool.and_true, Bool.true_and, Bool.and_false, Bool.false_and, Bool.or_true, Bool.true_or, Bool.or_false, Bool.false_or, reduceCtorEq, decide_true, decide_false]
            exact rngD_nat 60 (by omega)
          obtain ⟨ρ2, e2, ds2, r, p4, rfl, hr0, hs2, hd2⟩ := for_inv (tg := .v 4) (b := evB (F k) fuel [.ite (.cmp .gt (.var 3) (.cst (.int 0))) [.app 1 (.bin .mod (.c1 .int (.var 3)) (.cst (.int 65536))), .asg 3 (.bin .fdiv (.var 3) (.cst (.int 65536)))] []])
            (xs := rngL 0 60) (ρ := [some (.rol (ns.map .int)), some (.lst (nts ds)), some (.int i), some (.int a), o4, o5])
            (fun j ρ => ∃ (ds : List Nat) (r : Int) (p4 : Option D), ρ = [some (.rol (ns.map .int)), some (.lst (nts ds)), some (.int i), some (.int r), p4, o5] ∧ 0 ≤ r ∧ (∀ d ∈ ds, d < 65536) ∧ ds.length ≤ 60 * i + j) ⟨ds, a, o4, rfl, ha, hs, hd⟩ (by
              rintro j x ρ ex ⟨ds, r, p4, rfl, hr0, hs, hd⟩
              obtain ⟨hj, rfl⟩ := rngL_get (n := 60) ex
              have hj : j < 60 := hj
              by_cases hr1 : 0 < r
              · obtain ⟨b1, b2⟩ := mod_in r 65536 (by decide)
                refine ⟨_, [some (.rol (ns.map .int)), some (.lst (nts (ds ++ [(r.fmod 65536).toNat]))), some (.int i), some (.int (r.fdiv 65536)), some (.int j), o5], rfl, ?_, _, r.fdiv 65536, some (.int j), rfl, Int.fdiv_nonneg hr0 (by decide), small_snoc hs b1 b2, by rw [List.length_append]; simp only [List.length_cons, List.length_nil]; omega⟩
                have hlt : (nts ds).length < LIM := by show (List.map _ _).length < 16777216; rw [List.length_map]; omega
                rw [← nts_snoc ds _ b1]
                simp -implicitDefEqProofs only [evB, evS, evE, evL, evAnd, evOr, evIfs, evO, evI, part, R_ok_bind, R_ok_map, seq_nx, seq_rt, seq_bk, res_rt, res_nx, lk_0, lk_s, asL_lst, tru_bl, tru_int, cd_non, cd_bl, cd_int, cd_str, ceq_str, cne_str, ceq_int, cne_int, ceq_bl, cne_bl, clt_int, cle_int, cgt_int, cge_int, badd_int, bsub_int, len_lst, len_rol, abs_int, int_int, int_bl, cin_map, cnin_map, List.set_cons_zero, List.set_cons_succ, if_true, if_false, ite_true, ite_false, Bool.false_eq_true, Bool.not_true, Bool.not_false, Bool.and_true, Bool.true_and, Bool.and_false, Bool.false_and, Bool.or_true, Bool.true_or, Bool.or_false, Bool.false_or, reduceCtorEq, decide_true, decide_false, hr1, q1, d1, hlt]
              · refine ⟨_, [some (.rol (ns.map .int)), some (.lst (nts ds)), some (.int i), some (.int r), some (.int j), o5], rfl, ?_, ds, r, some (.int j), rfl, hr0, hs, by omega⟩
                simp -implicitDefEqProofs only [evB, evS, evE, evL, evAnd, evOr, evIfs, evO, evI, part, R_ok_bind, R_ok_map, seq_nx, seq_rt, seq_bk, res_rt, res_nx, lk_0, lk_s, asL_lst, tru_bl, tru_int, cd_non, cd_bl, cd_int, cd_str, ceq_str, cne_str, ceq_int, cne_int, ceq_bl, cne_bl, clt_int, cle_int, cgt_int, cge_int, badd_int, bsub_int, len_lst, len_rol, abs_int, int_int, int_bl, cin_map, cnin_map, List.set_cons_zero, List.set_cons_succ, if_true, if_false, ite_true, ite_false, Bool.false_eq_true, Bool.not_true, Bool.not_false, Bool.and_true, Bool.true_and, Bool.and_false, Bool.false_and, Bool.or_true, Bool.true_or, Bool.or_false, Bool.false_or, reduceCtorEq, decide_true, decide_false, hr1])
          refine ⟨_, _, rfl, ?_, ds2, some (.int i), some (.int r), p4, o5, rfl, hs2, by have : (rngL 0 60).length = 60 := rngL_len 60; omega⟩
          show evB (F k) fuel _ [some (.rol (ns.map .int)), some (.lst (nts ds)), some (.int i), o3, o4, o5] = _
          rw [step1, evB_nx (ρ1 := [some (.rol (ns.map .int)), some (.lst (nts ds2)), some (.int i), some (.int r), p4, o5]) (by
            simp only [evS]
            rw [hc, R_ok_bind, tru_bl, R_ok_bind, if_pos rfl]
            exact (evB_nx ((evS_forE h60).trans e2)).trans evB_nil)]
          exact evB_nil
        · rw [decide_eq_false hbig] at hc
          generalize hm1 : ((a * 48271 + ((i : Int) + 1) * 69621).fmod 2147483647) = x1
          generalize hm2 : ((x1 * 16807 + 11 * (i : Int) + 5).fmod 2147483629) = x2
          obtain ⟨b1, b2⟩ := mod_in x2 65536 (by decide)
          obtain ⟨b3, b4⟩ := mod_in (x2.fdiv 65536) 32768 (by decide)
          have hlt : (nts ds).length < LIM := by show (List.map _ _).length < 16777216; rw [List.length_map]; omega
          have hlt2 : (nts ds ++ [D.int (x2.fmod 65536)]).length < LIM := by
            rw [List.length_append]
            show (List.map _ _).length + 1 < 16777216
            rw [List.length_map]; omega
          refine ⟨_, [some (.rol (ns.map .int)), some (.lst (nts ((ds ++ [(x2.fmod 65536).toNat]) ++ [((x2.fdiv 65536).fmod 32768).toNat]))), some (.int i), some (.int a), o4, some (.int x2)], rfl, ?_, _, some (.int i), some (.int a), o4, some (.int x2), rfl, small_snoc (small_snoc hs b1 b2) b3 (by omega), by rw [List.length_append, List.length_append]; simp only [List.length_cons, List.length_nil]; omega⟩
          show evB (F k) fuel _ [some (.rol (ns.map .int)), some (.lst (nts ds)), some (.int i), o3, o4, o5] = _
          rw [step1, ← nts_snoc _ _ b3, ← nts_snoc ds _ b1]
          refine (evB_nx (ρ1 := [some (.rol (ns.map .int)), some (.lst ((nts ds ++ [D.int (x2.fmod 65536)]) ++ [D.int ((x2.fdiv 65536).fmod 32768)])), some (.int i), some (.int a), o4, some (.int x2)]) ?_).trans evB_nil
          simp only [evS]
          rw [hc, R_ok_bind, tru_bl, R_ok_bind, if_neg (by decide)]
          simp -implicitDefEqProofs only [evB, evS, evE, evL, evAnd, evOr, evIfs, evO, evI, part, R_ok_bind, R_ok_map, seq_nx, seq_rt, seq_bk, res_rt, res_nx, lk_0, lk_s, asL_lst, tru_bl, tru_int, cd_non, cd_bl, cd_int, cd_str, ceq_str, cne_str, ceq_int, cne_int, ceq_bl, cne_bl, clt_int, cle_int, cgt_int, cge_int, badd_int, bsub_int, len_lst, len_rol, abs_int, int_int, int_bl, cin_map, cnin_map, List.set_cons_zero, List.set_cons_succ, if_true, if_false, ite_true, ite_false, Bool.false_eq_true, Bool.not_true, Bool.not_false, Bool.and_true, Bool.true_and, Bool.and_false, Bool.false_and, Bool.or_true, Bool.true_or, Bool.or_false, Bool.false_or, reduceCtorEq, decide_true, decide_false, m1, m2, m3, m4, q1, q2, q3, q4, d1, hm1, hm2, hlt, hlt2])
    refine ⟨ds, hs, by rw [rngL_len] at hd; omega, ?_⟩
    refine (evB_nx ((evS_forE hr).trans e)).trans (evB_ret ?_)
    simp -implicitDefEqProofs only [evB, evS, evE, evL, evAnd, evOr, evIfs, evO, evI, part, R_ok_bind, R_ok_map, seq_nx, seq_rt, seq_bk, res_rt, res_nx, lk_0, lk_s, asL_lst, tru_bl, tru_int, cd_non, cd_bl, cd_int, cd_str, ceq_str, cne_str, ceq_int, cne_int, ceq_bl, cne_bl, clt_int, cle_int, cgt_int, cge_int, badd_int, bsub_int, len_lst, len_rol, abs_int, int_int, int_bl, cin_map, cnin_map, List.set_cons_zero, List.set_cons_succ, if_true, if_false, ite_true, ite_false, Bool.false_eq_true, Bool.not_true, Bool.not_false, Bool.and_true, Bool.true_and, Bool.and_false, Bool.false_and, Bool.or_true, Bool.true_or, Bool.or_false, Bool.false_or, reduceCtorEq, decide_true, decide_false]
  obtain ⟨ds, h1, h2, h3⟩ := main
  exact ⟨ds, h1, h2, callF_rt (d := d_law_draws) rfl rfl h3⟩
theorem ev_mix (k : Nat) (ds : List Nat) (kk many : Nat) (hs : ∀ d ∈ ds, d < 65536) (hm : 0 < many) : ∃ r : Nat, r < many ∧ F (k + 1) 5 [.lst (nts ds), .int kk, .int many] = .ok (.int r) := by
  have m1 : ∀ x, bin .mul (.int x) (.int 7919) = .ok (.int (x * 7919)) := fun x => bmul_int x _ (.inr ⟨by decide, by decide⟩)
  have m2 : ∀ x, bin .mul (.int x) (.int 104729) = .ok (.int (x * 104729)) := fun x => bmul_int x _ (.inr ⟨by decide, by decide⟩)
  have d1 : ∀ x, bin .fdiv (.int x) (.int 3) = .ok (.int (x.fdiv 3)) := fun x => bdiv_int x _ ⟨by decide, by decide⟩
  have q1 : ∀ x, bin .mod (.int x) (.int many) = .ok (.int (x.fmod many)) := fun x => bmod_int x _ (by omega)
  have fin : ∀ x : Int, ∃ r : Nat, r < many ∧ x.fmod many = (r : Int) := fun x => by
    obtain ⟨b1, b2⟩ := mod_in x many (by omega)
    exact ⟨(x.fmod many).toNat, by omega, by omega⟩
  have hlen : (nts ds).length = ds.length := List.length_map _
  -- the cell
  have cell : ∃ c : Nat, ∀ ss, evB (F k) fuel (.asg 3 (.cst (.int 0)) :: .ite (.cmp .gt (.c1 .len (.var 0)) (.cst (.int 0))) [.asg 3 (.idx (.var 0) (.bin .mod (.c1 .int (.var 1)) (.c1 .len (.var 0))))] [] :: ss) [some (.lst (nts ds)), some (.int kk), some (.int many), none] = evB (F k) fuel ss [some (.lst (nts ds)), some (.int kk), some (.int many), some (.int c)] := by
    by_cases h0 : ds.length = 0
    · refine ⟨0, fun ss => ?_⟩
      rw [evB_asg (d := .int 0) (by simp -implicitDefEqProofs only [evB, evS, evE, evL, evAnd, evOr, evIfs, evO, evI, part, R_ok_bind, R_ok_map, seq_nx, seq_rt, seq_bk, res_rt, res_nx, lk_0, lk_s, asL_lst, tru_bl, tru_int, cd_non, cd_bl, cd_int, cd_str, ceq_str, cne_str, ceq_int, cne_int, ceq_bl, cne_bl, clt_int, cle_int, cgt_int, cge_int, badd_int, bsub_int, len_lst, len_rol, abs_int, int_int, int_bl, cin_map, cnin_map, List.set_cons_zero, List.set_cons_succ, if_true, if_false, ite_true, ite_false, Bool.false_eq_true, Bool.not_true, Bool.not_false, Bool.and_true, Bool.true_and, Bool.and_false, Bool.false_and, Bool.or_true, Bool.true_or, Bool.or_false, Bool.false_or, reduceCtorEq, decide_true, decide_false])]
      rw [evB_skip (by simp -implicitDefEqProofs only [evB, evS, evE, evL, evAnd, evOr, evIfs, evO, evI, part, R_ok_bind, R_ok_map, seq_nx, seq_rt, seq_bk, res_rt, res_nx, lk_0, lk_s, asL_lst, tru_bl, tru_int, cd_non, cd_bl, cd_int, cd_str, ceq_str, cne_str, ceq_int, cne_int, ceq_bl, cne_bl, clt_int, cle_int, cgt_int, cge_int, badd_int, bsub_int, len_lst, len_rol, abs_int, int_int, int_bl, cin_map, cnin_map, List.set_cons_zero, List.set_cons_succ, if_true, if_false, ite_true, ite_false, Bool.false_eq_true, Bool.not_true, Bool.not_false, Bool.and_true, Bool.true_and, Bool.and_false, Bool.false_and, Bool.or_true, Bool.true_or, Bool.or_false, Bool.false_or, reduceCtorEq, decide_true, decide_false, hlen, h0, Int.natCast_zero, Int.lt_irrefl, Int.cast_ofNat_Int])]
      rfl
    · have hp : (0 : Int) < ((nts ds).length : Int) := by rw [hlen]; omega
      have e1 : bin .mod (.int kk) (.int ((nts ds).length : Int)) = .ok (.int ((kk % ds.length : Nat) : Int)) := by
        rw [bmod_int _ _ (by omega), hlen, Int.fmod_eq_emod_of_nonneg _ (by omega)]
        rfl
      have hk : kk % ds.length < ds.length := Nat.mod_lt _ (by omega)
      have e2 : idx (.lst (nts ds)) (.int ((kk % ds.length : Nat) : Int)) = .ok (.int (ds[kk % ds.length] : Nat)) := by
        rw [idx_lst (by rw [hlen]; exact hk)]
        simp [nts]
      refine ⟨ds[kk % ds.length], fun ss => ?_⟩
      rw [evB_asg (d := .int 0) (by simp -implicitDefEqProofs only [evB, evS, evE, evL, evAnd, evOr, evIfs, evO, evI, part, R_ok_bind, R_ok_map, seq_nx, seq_rt, seq_bk, res_rt, res_nx, lk_0, lk_s, asL_lst, tru_bl, tru_int, cd_non, cd_bl, cd_int, cd_str, ceq_str, cne_str, ceq_int, cne_int, ceq_bl, cne_bl, clt_int, cle_int, cgt_int, cge_int, badd_int, bsub_int, len_lst, len_rol, abs_int, int_int, int_bl, cin_map, cnin_map, List.set_cons_zero, List.set_cons_succ, if_true, if_false, ite_true, ite_false, Bool.false_eq_true, Bool.not_true, Bool.not_false, Bool.and_true, Bool.true_and, Bool.and_false, Bool.false_and, Bool.or_true, Bool.true_or, Bool.or_false, Bool.false_or, reduceCtorEq, decide_true, decide_false])]
      refine evB_nx ?_
      show evS (F k) fuel _ [some (.lst (nts ds)), some (.int kk), some (.int many), some (.int 0)] = _
      simp -implicitDefEqProofs only [evB, evS, evE, evL, evAnd, evOr, evIfs, evO, evI, part, R_ok_bind, R_ok_map, seq_nx, seq_rt, seq_bk, res_rt, res_nx, lk_0, lk_s, asL_lst, tru_bl, tru_int, cd_non, cd_bl, cd_int, cd_str, ceq_str, cne_str, ceq_int, cne_int, ceq_bl, cne_bl, clt_int, cle_int, cgt_int, cge_int, badd_int, bsub_int, len_lst, len_rol, abs_int, int_int, int_bl, cin_map, cnin_map, List.set_cons_zero, List.set_cons_succ, if_true, if_false, ite_true, ite_false, Bool.false_eq_true, Bool.not_true, Bool.not_false, Bool.and_true, Bool.true_and, Bool.and_false, Bool.false_and, Bool.or_true, Bool.true_or, Bool.or_false, Bool.false_or, reduceCtorEq, decide_true, decide_false, hp, e1, e2]
  obtain ⟨c, hc⟩ := cell
  by_cases hlt : (kk : Int) < ((nts ds).length : Int)
  · obtain ⟨r, hr, er⟩ := fin c
    refine ⟨r, hr, callF_rt (d := d_law_mix) rfl rfl ?_⟩
    show evB (F k) fuel b_law_mix [some (.lst (nts ds)), some (.int kk), some (.int many), none] = _
    unfold b_law_mix
    rw [hc]
    refine evB_rt ?_
    simp -implicitDefEqProofs only [evB, evS, evE, evL, evAnd, evOr, evIfs, evO, evI, part, R_ok_bind, R_ok_map, seq_nx, seq_rt, seq_bk, res_rt, res_nx, lk_0, lk_s, asL_lst, tru_bl, tru_int, cd_non, cd_bl, cd_int, cd_str, ceq_str, cne_str, ceq_int, cne_int, ceq_bl, cne_bl, clt_int, cle_int, cgt_int, cge_int, badd_int, bsub_int, len_lst, len_rol, abs_int, int_int, int_bl, cin_map, cnin_map, List.set_cons_zero, List.set_cons_succ, if_true, if_false, ite_true, ite_false, Bool.false_eq_true, Bool.not_true, Bool.not_false, Bool.and_true, Bool.true_and, Bool.and_false, Bool.false_and, Bool.or_true, Bool.true_or, Bool.or_false, Bool.false_or, reduceCtorEq, decide_true, decide_false, hlt, q1, er]
  · obtain ⟨r, hr, er⟩ := fin (((c : Int) * 7919 + (kk : Int) * 104729).fdiv 3)
    refine ⟨r, hr, callF_rt (d := d_law_mix) rfl rfl ?_⟩
    show evB (F k) fuel b_law_mix [some (.lst (nts ds)), some (.int kk), some (.int many), none] = _
    unfold b_law_mix
    rw [hc, evB_skip (by simp -implicitDefEqProofs only [evB, evS, evE, evL, evAnd, evOr, evIfs, evO, evI, part, R_ok_bind, R_ok_map, seq_nx, seq_rt, seq_bk, res_rt, res_nx, lk_0, lk_s, asL_lst, tru_bl, tru_int, cd_non, cd_bl, cd_int, cd_str, ceq_str, cne_str, ceq_int, cne_int, ceq_bl, cne_bl, clt_int, cle_int, cgt_int, cge_int, badd_int, bsub_int, len_lst, len_rol, abs_int, int_int, int_bl, cin_map, cnin_map, List.set_cons_zero, List.set_cons_succ, if_true, if_false, ite_true, ite_false, Bool.false_eq_true, Bool.not_true, Bool.not_false, Bool.and_true, Bool.true_and, Bool.and_false, Bool.false_and, Bool.or_true, Bool.true_or, Bool.or_false, Bool.false_or, reduceCtorEq, decide_true, decide_false, hlt])]
    refine evB_ret ?_
    simp -implicitDefEqProofs only [evB, evS, evE, evL, evAnd, evOr, evIfs, evO, evI, part, R_ok_bind, R_ok_map, seq_nx, seq_rt, seq_bk, res_rt, res_nx, lk_0, lk_s, asL_lst, tru_bl, tru_int, cd_non, cd_bl, cd_int, cd_str, ceq_str, cne_str, ceq_int, cne_int, ceq_bl, cne_bl, clt_int, cle_int, cgt_int, cge_int, badd_int, bsub_int, len_lst, len_rol, abs_int, int_int, int_bl, cin_map, cnin_map, List.set_cons_zero, List.set_cons_succ, if_true, if_false, ite_true, ite_false, Bool.false_eq_true, Bool.not_true, Bool.not_false, Bool.and_true, Bool.true_and, Bool.and_false, Bool.false_and, Bool.or_true, Bool.true_or, Bool.or_false, Bool.false_or, reduceCtorEq, decide_true, decide_false, m1, m2, d1, q1, er]
end K04
end TW

/-! texts of values -/
namespace TW
namespace K04
open PySem PySem.Spec PyProof.Rows L2
theorem len_app (a b : Str) : (a ++ b).length = a.length + b.length := by
  show (Str.append a b).length = _
  unfold Str.append Str.length
  simp
theorem from_le (m : Nat) : ∀ (ts : List Str) (k : Nat) (acc : Str), (∀ t ∈ ts, t.length ≤ m) → (textFrom k acc ts).length ≤ acc.length + ts.length * (m + 2)
  | [], k, acc, _ => by simp [textFrom]
  | t :: ts, k, acc, h => by
    simp only [textFrom]
    have ih := from_le m ts (k + 1) (acc ++ (if k > 0 then ", " else "" : String) ++ t) fun x hx => h x (List.mem_cons_of_mem _ hx)
    have h1 := h t List.mem_cons_self
    have h2 : (Str.ofString (if k > 0 then ", " else "" : String)).length ≤ 2 := by split <;> decide +kernel
    rw [len_app, len_app] at ih
    simp only [List.length_cons, Nat.add_mul, Nat.one_mul]
    omega
theorem small_shown : ∀ n : Nat, n < 13 → (PyData.shown (.int (n : Int))).length ≤ 4 := by decide +kernel
theorem shown_nts : ∀ (tl : List Nat), (∀ n ∈ tl, n < 13) → (∀ t ∈ PyData.shownAll (D.pyL (nts tl)), t.length ≤ 4) ∧ (PyData.shownAll (D.pyL (nts tl))).length = tl.length
  | [], _ => ⟨fun t ht => by simp [nts, D.pyL, PyData.shownAll] at ht, rfl⟩
  | n :: tl, h => by
    obtain ⟨h1, h2⟩ := shown_nts tl fun x hx => h x (List.mem_cons_of_mem _ hx)
    refine ⟨fun t ht => ?_, by simp only [nts, List.map_cons, D.pyL, PyData.shownAll, List.length_cons] at h2 ⊢; rw [h2]⟩
    simp only [nts, List.map_cons, D.pyL, PyData.shownAll, D.py, List.mem_cons] at ht
    rcases ht with rfl | ht
    · exact small_shown n (h n List.mem_cons_self)
    · exact h1 t ht
theorem repr_nts (tl : List Nat) (h : ∀ n ∈ tl, n < 13) (hl : tl.length ≤ 13) : call1 .repr (.lst (nts tl)) = .ok (.str (D.shown (.lst (nts tl)))) := by
  have k1 : D.okD 60 (.lst (nts tl)) = true := by
    rw [nts_int]
    simp only [D.okD, okL_ints]
    rfl
  have k2 : D.shw (.lst (nts tl)) = true := by
    simp only [D.shw]
    clear hl k1
    induction tl with
    | nil => rfl
    | cons n tl ih =>
      have := h n List.mem_cons_self
      have e : decide (((n : Nat) : Int).natAbs.log2 < 1920) = true := by
        have : n.log2 ≤ n := Nat.log2_le_self n
        simp only [Int.natAbs_natCast, decide_eq_true_eq]
        omega
      simp only [nts, List.map_cons, D.shwL, D.shw, e, Bool.true_and]
      exact ih fun x hx => h x (List.mem_cons_of_mem _ hx)
  have k3 : (D.shown (.lst (nts tl))).length ≤ LIM := by
    obtain ⟨a, b⟩ := shown_nts tl h
    show (PyData.shown (D.py (.lst (nts tl)))).length ≤ _
    simp only [D.py, PyData.shown, listText]
    rw [len_app]
    have := from_le 4 _ 0 "[" a
    rw [b] at this
    have z : (Str.ofString "[").length = 1 := by decide +kernel
    have z2 : (Str.ofString "]").length = 1 := by decide +kernel
    rw [z] at this
    rw [z2]
    show _ ≤ 16777216
    omega
  simp only [call1, R.iff, k1, k2, k3, decide_true, Bool.and_self, if_true]
theorem text_le (q : Nat) : ∀ (cs : List Nat) (acc : Array Nat), (∀ c ∈ cs, c < 1000) → (cs.foldl (fun out c => out ++ (PySem.Builtin.Str.reprChar q c).toArray) acc).size ≤ acc.size + 10 * cs.length
  | [], acc, _ => by simp
  | c :: cs, acc, h => by
    rw [List.foldl_cons]
    have ih := text_le q cs (acc ++ (PySem.Builtin.Str.reprChar q c).toArray) fun x hx => h x (List.mem_cons_of_mem _ hx)
    have h1 := PySem.StrLaws.reprChar_len q c (by have := h c List.mem_cons_self; omega)
    simp only [Array.size_append, List.size_toArray] at ih
    simp only [List.length_cons]
    omega
theorem repr_str (cs : List Nat) (h : ∀ c ∈ cs, c < 1000) (hl : cs.length ≤ 1000) : call1 .repr (.str (mk cs)) = .ok (.str (D.shown (.str (mk cs)))) := by
  have k1 : D.okD 60 (.str (mk cs)) = true := by
    simp only [D.okD, PyData.strOk, mk, List.all_toArray, List.all_eq_true, decide_eq_true_eq]
    intro c hc
    have := h c hc
    omega
  have k3 : (D.shown (.str (mk cs))).length ≤ LIM := by
    show (reprText (mk cs)).length ≤ _
    unfold reprText mk Str.length
    rw [Array.size_push, ← Array.foldl_toList]
    have := text_le (PySem.reprQuote (mk cs)) cs #[PySem.reprQuote (mk cs)] h
    simp only [List.size_toArray, List.length_cons, List.length_nil] at this
    show _ ≤ 16777216
    simp only [mk] at this ⊢
    omega
  simp only [call1, R.iff, k1, k3, D.shw, decide_true, Bool.and_self, if_true]
end K04
end TW

/-! what fits -/
namespace TW
namespace K04
open PySem PySem.Spec PyProof.Rows L2
theorem fits_cut {cs : List Nat} {u : List Br} (hred : Red (pl 0 false cs) u) : fits (cut (u.map (·.1)) 0 cs) = true := by
  unfold fits
  rw [fitsB_total, cut_pl (u.map (·.1)) cs 0 0 false fun k hk _ => by
    obtain ⟨x, hx, rfl⟩ := List.mem_map.mp hk
    exact List.mem_map_of_mem (red_mem hred x hx)]
  rw [total_red hred (nd_pl 0 false cs) (u.map (·.1)) (fun x hx => List.mem_map_of_mem hx) fun p hp => by
    obtain ⟨x, hx, e⟩ := List.mem_map.mp hp
    exact ⟨x, hx, e⟩]
  rfl
theorem sg_shift : ∀ (cs : List Nat) (n m : Nat) (r : Bool), sg (pl n r cs) = sg (pl m r cs)
  | [], _, _, _ => rfl
  | c :: cs, n, m, r => by
    have ih := sg_shift cs (n + 1) (m + 1) (nxt r c)
    simp only [sg, pl, List.map_append] at ih ⊢
    rw [ih]
    congr 1
    split <;> rfl
theorem rep_open : ∀ (e n : Nat), sg (pl n false (List.replicate e 123)) = List.replicate e false ∧ st false (List.replicate e 123) = false
  | 0, n => ⟨rfl, rfl⟩
  | e + 1, n => by
    obtain ⟨h1, h2⟩ := rep_open e (n + 1)
    rw [List.replicate_succ, List.replicate_succ]
    have z : nxt false 123 = false := rfl
    simp only [sg, pl, z, List.map_append] at h1 ⊢
    refine ⟨by rw [h1]; rfl, ?_⟩
    show st (nxt false 123) _ = _
    rw [z]
    exact h2
theorem rep_close : ∀ (e n : Nat), sg (pl n false (List.replicate e 125)) = List.replicate e true
  | 0, n => rfl
  | e + 1, n => by
    have h1 := rep_close e (n + 1)
    rw [List.replicate_succ, List.replicate_succ]
    have z : nxt false 125 = false := rfl
    simp only [sg, pl, z, List.map_append] at h1 ⊢
    rw [h1]
    rfl
theorem fits_clo {cs : List Nat} {u : List Br} (hred : Red (pl 0 false cs) u) (np : NoPair u) : fits (clo cs ((sg u).count true) ((sg u).count false)) = true := by
  have key := total_closed hred np
  generalize (sg u).count true = e at key ⊢
  generalize (sg u).count false = m at key ⊢
  have tail : ∀ n r, sg (pl n r (if 0 < m then 10 :: List.replicate m 125 else [])) = List.replicate m true := fun n r => by
    by_cases hm : 0 < m
    · rw [if_pos hm]
      have z : nxt r 10 = false := by simp [nxt]
      have q := rep_close m (n + 1)
      simp only [sg, pl, z, List.map_append] at q ⊢
      rw [q]
      simp
    · obtain rfl : m = 0 := by omega
      rfl
  unfold fits clo
  rw [fitsB_total, pl_app, pl_app, (rep_open e 0).2]
  have e1 := (rep_open e 0).1
  have e2 := sg_shift cs (0 + (List.replicate e 123).length) 0 false
  have e3 := tail (0 + (List.replicate e 123 ++ cs).length) (st false (List.replicate e 123 ++ cs))
  simp only [sg, List.map_append] at e1 e2 e3 key ⊢
  rw [e1, e2, e3, List.append_assoc, key]
  rfl
theorem fits_rest {cs one : List Nat} (h : ∀ k ∈ one, k ∈ (pl 0 false cs).map (·.1)) (hlt : one.length < (lo [] [] (pl 0 false cs)).length) : fits (cut one 0 cs) = false := by
  unfold fits
  rw [fitsB_total, cut_pl one cs 0 0 false fun k hk _ => h k hk]
  have h1 := lo_len (pl 0 false cs) [] []
  have h2 := few_struck one (pl 0 false cs) (nd_pl 0 false cs)
  have h3 := total_sub (List.Sublist.map (·.2) (List.filter_sublist (p := fun x : Br => decide (x.1 ∉ one)) (l := pl 0 false cs))) 0
  simp only [List.length_map, List.length_nil, Nat.zero_add] at h1 h3
  have h4 : total 0 (sg ((pl 0 false cs).filter fun x => decide (x.1 ∉ one))) ≠ 0 := by
    simp only [sg] at h1 ⊢
    omega
  simpa using h4
theorem fits_told {cs : List Nat} : fits cs = decide ((lo [] [] (pl 0 false cs)).length = 0) := by
  unfold fits
  rw [fitsB_total, lo_len]
  simp only [List.length_nil, Nat.zero_add]
  by_cases h : total 0 (sg (pl 0 false cs)) = 0
  · simp [h]
  · simp [h]
theorem cut_one (Q cs : List Nat) (i : Nat) (hi : i < cs.length) : cut Q 0 (cs.take (i + 1)) = cut Q 0 (cs.take i) ++ (if i ∈ Q then [] else [cs[i]]) := by
  rw [List.take_add_one, List.getElem?_eq_getElem hi, Option.toList_some, cut_app]
  simp [cut, List.length_take, Nat.min_eq_left (Nat.le_of_lt hi)]
theorem cut_mem (Q : List Nat) : ∀ (cs : List Nat) (n c : Nat), c ∈ cut Q n cs → c ∈ cs
  | [], _, _, h => h
  | d :: cs, n, c, h => by
    simp only [cut, List.mem_append] at h
    rcases h with h | h
    · split at h
      · cases h
      · simp only [List.mem_singleton] at h
        rw [h]; exact List.mem_cons_self
    · exact List.mem_cons_of_mem _ (cut_mem Q cs _ c h)
theorem cne_same (x : Str) : cmp .ne (.str x) (.str x) = .ok (.bl false) := by
  simp [cmp, flat, R.iff, D.eqv]
theorem ev_mixI (k : Nat) (ds : List Nat) (kk many : Int) (hs : ∀ d ∈ ds, d < 65536) (h0 : 0 ≤ kk) (hm : 0 < many) : ∃ r : Nat, (r : Int) < many ∧ F (k + 1) 5 [.lst (nts ds), .int kk, .int many] = .ok (.int r) := by
  obtain ⟨a, rfl⟩ := Int.eq_ofNat_of_zero_le h0
  obtain ⟨b, rfl⟩ := Int.eq_ofNat_of_zero_le (Int.le_of_lt hm)
  obtain ⟨r, h1, h2⟩ := ev_mix k ds a b hs (by omega)
  exact ⟨r, by omega, h2⟩
theorem lab : ("{}{}{}a;\n " : Str) = mk [123, 125, 123, 125, 123, 125, 97, 59, 10, 32] := by decide +kernel
abbrev en (sc : D) (ds : List Nat) (i : Nat) (a3 a4 a5 a6 a7 a8 a9 a10 a11 a12 a13 : Option D) : En := [some sc, some (.lst (nts ds)), some (.int i), a3, a4, a5, a6, a7, a8, a9, a10, a11, a12, a13]
/-- a text is made -/
theorem seg_text (sc : D) (ds : List Nat) (hs : ∀ d ∈ ds, d < 65536) (i : Nat) (a3 a4 a5 a6 a7 a8 a9 a10 a11 a12 a13 : Option D) : ∃ cs b4, cs.length ≤ 12 ∧ (∀ c ∈ cs, c < 1000) ∧
    ∀ ss, evB (F 4) fuel (.asg 3 (.cst (.str "")) :: .for [0, 99, 0, 1, 0, 0, 0, 0, 0, 0, 0, 0, 0, 0] (.v 4) (.rg1 (.fn 5 "_law_mix" (.cons (.var 1) (.cons (.bin .add (.cst (.int 10)) (.var 2)) (.cons (.cst (.int 13)) .nil))))) [.asg 3 (.bin .add (.var 3) (.idx (.cst (.str "{}{}{}a;\n ")) (.fn 5 "_law_mix" (.cons (.var 1) (.cons (.bin .add (.bin .add (.cst (.int 20)) (.bin .mul (.cst (.int 14)) (.var 2))) (.var 4)) (.cons (.cst (.int 10)) .nil))))))] :: .lv [0, 99, 0, 0, 0, 0, 0, 0, 0, 0, 0, 0, 0, 0] :: ss) (en sc ds i a3 a4 a5 a6 a7 a8 a9 a10 a11 a12 a13) = evB (F 4) fuel ss (en sc ds i (some (.str (mk cs))) b4 a5 a6 a7 a8 a9 a10 a11 a12 a13) := by
  obtain ⟨r, hr, er⟩ := ev_mixI 3 ds (10 + (i : Int)) 13 hs (by omega) (by decide)
  have m14 : ∀ x, bin .mul (.int 14) (.int x) = .ok (.int (14 * x)) := fun x => bmul_int _ x (.inl ⟨by decide, by decide⟩)
  have hI : evI (F 4) (.rg1 (.fn 5 "_law_mix" (.cons (.var 1) (.cons (.bin .add (.cst (.int 10)) (.var 2)) (.cons (.cst (.int 13)) .nil))))) (en sc ds i (some (.str (mk []))) a4 a5 a6 a7 a8 a9 a10 a11 a12 a13) = .ok (rngL 0 r) := by
    simp -implicitDefEqProofs only [evB, evS, evE, evL, evAnd, evOr, evIfs, evO, evI, part, R_ok_bind, R_ok_map, seq_nx, seq_rt, seq_bk, res_rt, res_nx, lk_0, lk_s, asL_lst, tru_bl, tru_int, cd_non, cd_bl, cd_int, cd_str, ceq_str, cne_str, ceq_int, cne_int, ceq_bl, cne_bl, clt_int, cle_int, cgt_int, cge_int, badd_int, bsub_int, len_lst, len_rol, abs_int, int_int, int_bl, cin_map, cnin_map, List.set_cons_zero, List.set_cons_succ, if_true, if_false, ite_true, ite_false, Bool.false_eq_true, Bool.not_true, Bool.not_false, Bool.and_true, Bool.true_and, Bool.and_false, Bool.false_and, Bool.or_true, Bool.true_or, Bool.or_false, Bool.false_or, reduceCtorEq, decide_true, decide_false, er, rngD_nat r (by omega)]
  obtain ⟨ρ', e, cs, b4, hcs, hc, rfl⟩ := for_inv (tg := .v 4) (b := evB (F 4) fuel [.asg 3 (.bin .add (.var 3) (.idx (.cst (.str "{}{}{}a;\n ")) (.fn 5 "_law_mix" (.cons (.var 1) (.cons (.bin .add (.bin .add (.cst (.int 20)) (.bin .mul (.cst (.int 14)) (.var 2))) (.var 4)) (.cons (.cst (.int 10)) .nil))))))]) (xs := rngL 0 r) (ρ := en sc ds i (some (.str (mk []))) a4 a5 a6 a7 a8 a9 a10 a11 a12 a13)
    (fun j ρ => ∃ (cs : List Nat) (b4 : Option D), cs.length ≤ j ∧ (∀ c ∈ cs, c < 1000) ∧ ρ = en sc ds i (some (.str (mk cs))) b4 a5 a6 a7 a8 a9 a10 a11 a12 a13) ⟨[], a4, Nat.le_refl _, by simp, rfl⟩ (by
      rintro j x ρ ex ⟨cs, b4, hcs, hc, rfl⟩
      obtain ⟨hj, rfl⟩ := rngL_get ex
      obtain ⟨r2, hr2, er2⟩ := ev_mixI 3 ds (20 + 14 * (i : Int) + (j : Int)) 10 hs (by omega) (by decide)
      have hr3 : r2 < [123, 125, 123, 125, 123, 125, 97, 59, 10, 32].length := by simp only [List.length_cons, List.length_nil]; omega
      have ix := idx_str hr3 (by decide)
      have hsm : ∀ c ∈ [123, 125, 123, 125, 123, 125, 97, 59, 10, 32], c < 1000 := by decide
      have hcc := hsm _ (List.getElem_mem hr3)
      generalize [123, 125, 123, 125, 123, 125, 97, 59, 10, 32][r2] = c at ix hcc
      have ba := badd_str cs [c] (lim_le (by simp only [List.length_cons, List.length_nil]; omega))
      refine ⟨_, en sc ds i (some (.str (mk (cs ++ [c])))) (some (.int j)) a5 a6 a7 a8 a9 a10 a11 a12 a13, rfl, ?_, cs ++ [c], some (.int j), by rw [List.length_append]; simp only [List.length_cons, List.length_nil]; omega, fun x hx => ?_, rfl⟩
      · simp -implicitDefEqProofs only [evB, evS, evE, evL, evAnd, evOr, evIfs, evO, evI, part, R_ok_bind, R_ok_map, seq_nx, seq_rt, seq_bk, res_rt, res_nx, lk_0, lk_s, asL_lst, tru_bl, tru_int, cd_non, cd_bl, cd_int, cd_str, ceq_str, cne_str, ceq_int, cne_int, ceq_bl, cne_bl, clt_int, cle_int, cgt_int, cge_int, badd_int, bsub_int, len_lst, len_rol, abs_int, int_int, int_bl, cin_map, cnin_map, List.set_cons_zero, List.set_cons_succ, if_true, if_false, ite_true, ite_false, Bool.false_eq_true, Bool.not_true, Bool.not_false, Bool.and_true, Bool.true_and, Bool.and_false, Bool.false_and, Bool.or_true, Bool.true_or, Bool.or_false, Bool.false_or, reduceCtorEq, decide_true, decide_false, m14, er2, lab, ix, ba]
      · rcases List.mem_append.mp hx with z | z
        · exact hc x z
        · simp only [List.mem_singleton] at z
          rw [z]; exact hcc)
  rw [rngL_len] at hcs
  refine ⟨cs, b4, by omega, hc, fun ss => ?_⟩
  rw [evB_asg (d := .str (mk [])) (by simp -implicitDefEqProofs only [evB, evS, evE, evL, evAnd, evOr, evIfs, evO, evI, part, R_ok_bind, R_ok_map, seq_nx, seq_rt, seq_bk, res_rt, res_nx, lk_0, lk_s, asL_lst, tru_bl, tru_int, cd_non, cd_bl, cd_int, cd_str, ceq_str, cne_str, ceq_int, cne_int, ceq_bl, cne_bl, clt_int, cle_int, cgt_int, cge_int, badd_int, bsub_int, len_lst, len_rol, abs_int, int_int, int_bl, cin_map, cnin_map, List.set_cons_zero, List.set_cons_succ, if_true, if_false, ite_true, ite_false, Bool.false_eq_true, Bool.not_true, Bool.not_false, Bool.and_true, Bool.true_and, Bool.and_false, Bool.false_and, Bool.or_true, Bool.true_or, Bool.or_false, Bool.false_or, reduceCtorEq, decide_true, decide_false, l0])]
  show evB (F 4) fuel _ (en sc ds i (some (.str (mk []))) a4 a5 a6 a7 a8 a9 a10 a11 a12 a13) = _
  rw [evB_nx (ρ1 := en sc ds i (some (.str (mk cs))) b4 a5 a6 a7 a8 a9 a10 a11 a12 a13) ((evS_forE hI).trans e), evB_lv]
end K04
end TW

/-! the law's own body -/
namespace TW
namespace K04
open PySem PySem.Spec PyProof.Rows L2
theorem pls_nts (u : List Br) : pls u = nts (u.map (·.1)) := by simp [pls, nts]
/-- the due text -/
theorem seg_due (sc : D) (ds : List Nat) (i : Nat) (cs Q : List Nat) (hl : cs.length ≤ 12) (a4 a7 a8 a9 a10 a11 a12 a13 : Option D) (a6 : Option D) : ∃ b7, ∀ ss, evB (F 4) fuel (.asg 6 (.cst (.str "")) :: .for [0, 99, 0, 0, 0, 1, 1, 0, 0, 0, 0, 0, 0, 0] (.v 7) (.rg1 (.c1 .len (.var 3))) [.ite (.cmp .notIn (.var 7) (.var 5)) [.asg 6 (.bin .add (.var 6) (.idx (.var 3) (.var 7)))] []] :: ss) (en sc ds i (some (.str (mk cs))) a4 (some (.lst (nts Q))) a6 a7 a8 a9 a10 a11 a12 a13) = evB (F 4) fuel ss (en sc ds i (some (.str (mk cs))) a4 (some (.lst (nts Q))) (some (.str (mk (cut Q 0 cs)))) b7 a8 a9 a10 a11 a12 a13) := by
  have hL : cs.length ≤ LIM := lim_le (by omega)
  have hI : evI (F 4) (.rg1 (.c1 .len (.var 3))) (en sc ds i (some (.str (mk cs))) a4 (some (.lst (nts Q))) (some (.str (mk []))) a7 a8 a9 a10 a11 a12 a13) = .ok (rngL 0 cs.length) := by
    simp -implicitDefEqProofs only [evB, evS, evE, evL, evAnd, evOr, evIfs, evO, evI, part, R_ok_bind, R_ok_map, seq_nx, seq_rt, seq_bk, res_rt, res_nx, lk_0, lk_s, asL_lst, tru_bl, tru_int, cd_non, cd_bl, cd_int, cd_str, ceq_str, cne_str, ceq_int, cne_int, ceq_bl, cne_bl, clt_int, cle_int, cgt_int, cge_int, badd_int, bsub_int, len_lst, len_rol, abs_int, int_int, int_bl, cin_map, cnin_map, List.set_cons_zero, List.set_cons_succ, if_true, if_false, ite_true, ite_false, Bool.false_eq_true, Bool.not_true, Bool.not_false, Bool.and_true, Bool.true_and, Bool.and_false, Bool.false_and, Bool.or_true, Bool.true_or, Bool.or_false, Bool.false_or, reduceCtorEq, decide_true, decide_false, len_str cs hL, rngD_nat cs.length (by omega)]
  obtain ⟨ρ', e, b7, rfl⟩ := for_inv (tg := .v 7) (b := evB (F 4) fuel [.ite (.cmp .notIn (.var 7) (.var 5)) [.asg 6 (.bin .add (.var 6) (.idx (.var 3) (.var 7)))] []]) (xs := rngL 0 cs.length) (ρ := en sc ds i (some (.str (mk cs))) a4 (some (.lst (nts Q))) (some (.str (mk []))) a7 a8 a9 a10 a11 a12 a13)
    (fun j ρ => ∃ b7, ρ = en sc ds i (some (.str (mk cs))) a4 (some (.lst (nts Q))) (some (.str (mk (cut Q 0 (cs.take j))))) b7 a8 a9 a10 a11 a12 a13) ⟨a7, rfl⟩ (by
      rintro j x ρ ex ⟨b7, rfl⟩
      obtain ⟨hj, rfl⟩ := rngL_get ex
      refine ⟨_, en sc ds i (some (.str (mk cs))) a4 (some (.lst (nts Q))) (some (.str (mk (cut Q 0 (cs.take (j + 1)))))) (some (.int j)) a8 a9 a10 a11 a12 a13, rfl, ?_, some (.int j), rfl⟩
      rw [cut_one Q cs j hj]
      have ix := idx_str hj hL
      have hcl := cut_len Q (cs.take j) 0
      have htl : (cs.take j).length ≤ cs.length := List.length_take_le' _ _
      have ba := badd_str (cut Q 0 (cs.take j)) [cs[j]] (lim_le (by simp only [List.length_cons, List.length_nil]; omega))
      generalize cut Q 0 (cs.take j) = d at ba ⊢
      by_cases h : j ∈ Q
      · simp -implicitDefEqProofs only [evB, evS, evE, evL, evAnd, evOr, evIfs, evO, evI, part, R_ok_bind, R_ok_map, seq_nx, seq_rt, seq_bk, res_rt, res_nx, lk_0, lk_s, asL_lst, tru_bl, tru_int, cd_non, cd_bl, cd_int, cd_str, ceq_str, cne_str, ceq_int, cne_int, ceq_bl, cne_bl, clt_int, cle_int, cgt_int, cge_int, badd_int, bsub_int, len_lst, len_rol, abs_int, int_int, int_bl, cin_map, cnin_map, List.set_cons_zero, List.set_cons_succ, if_true, if_false, ite_true, ite_false, Bool.false_eq_true, Bool.not_true, Bool.not_false, Bool.and_true, Bool.true_and, Bool.and_false, Bool.false_and, Bool.or_true, Bool.true_or, Bool.or_false, Bool.false_or, reduceCtorEq, decide_true, decide_false, in_nts, h, List.append_nil]
      · simp -implicitDefEqProofs only [evB, evS, evE, evL, evAnd, evOr, evIfs, evO, evI, part, R_ok_bind, R_ok_map, seq_nx, seq_rt, seq_bk, res_rt, res_nx, lk_0, lk_s, asL_lst, tru_bl, tru_int, cd_non, cd_bl, cd_int, cd_str, ceq_str, cne_str, ceq_int, cne_int, ceq_bl, cne_bl, clt_int, cle_int, cgt_int, cge_int, badd_int, bsub_int, len_lst, len_rol, abs_int, int_int, int_bl, cin_map, cnin_map, List.set_cons_zero, List.set_cons_succ, if_true, if_false, ite_true, ite_false, Bool.false_eq_true, Bool.not_true, Bool.not_false, Bool.and_true, Bool.true_and, Bool.and_false, Bool.false_and, Bool.or_true, Bool.true_or, Bool.or_false, Bool.false_or, reduceCtorEq, decide_true, decide_false, in_nts, h, ix, ba])
  rw [rngL_len, List.take_length] at e
  refine ⟨b7, fun ss => ?_⟩
  rw [evB_asg (d := .str (mk [])) (by simp -implicitDefEqProofs only [evB, evS, evE, evL, evAnd, evOr, evIfs, evO, evI, part, R_ok_bind, R_ok_map, seq_nx, seq_rt, seq_bk, res_rt, res_nx, lk_0, lk_s, asL_lst, tru_bl, tru_int, cd_non, cd_bl, cd_int, cd_str, ceq_str, cne_str, ceq_int, cne_int, ceq_bl, cne_bl, clt_int, cle_int, cgt_int, cge_int, badd_int, bsub_int, len_lst, len_rol, abs_int, int_int, int_bl, cin_map, cnin_map, List.set_cons_zero, List.set_cons_succ, if_true, if_false, ite_true, ite_false, Bool.false_eq_true, Bool.not_true, Bool.not_false, Bool.and_true, Bool.true_and, Bool.and_false, Bool.false_and, Bool.or_true, Bool.true_or, Bool.or_false, Bool.false_or, reduceCtorEq, decide_true, decide_false, l0])]
  show evB (F 4) fuel _ (en sc ds i (some (.str (mk cs))) a4 (some (.lst (nts Q))) (some (.str (mk []))) a7 a8 a9 a10 a11 a12 a13) = _
  rw [evB_nx ((evS_forE hI).trans e)]
/-- the text but some signs -/
theorem seg_rest (sc : D) (ds : List Nat) (i : Nat) (cs Q : List Nat) (hl : cs.length ≤ 12) (a4 a5 a6 a7 a8 a9 a10 a11 a13 : Option D) : ∃ b7, ∀ ss, evB (F 4) fuel (.asg 13 (.cst (.str "")) :: .for [0, 99, 0, 0, 0, 1, 1, 0, 99, 99, 0, 0, 0, 1] (.v 7) (.rg1 (.c1 .len (.var 3))) [.ite (.cmp .notIn (.var 7) (.var 12)) [.asg 13 (.bin .add (.var 13) (.idx (.var 3) (.var 7)))] []] :: ss) (en sc ds i (some (.str (mk cs))) a4 a5 a6 a7 a8 a9 a10 a11 (some (.lst (nts Q))) a13) = evB (F 4) fuel ss (en sc ds i (some (.str (mk cs))) a4 a5 a6 b7 a8 a9 a10 a11 (some (.lst (nts Q))) (some (.str (mk (cut Q 0 cs))))) := by
  have hL : cs.length ≤ LIM := lim_le (by omega)
  have hI : evI (F 4) (.rg1 (.c1 .len (.var 3))) (en sc ds i (some (.str (mk cs))) a4 a5 a6 a7 a8 a9 a10 a11 (some (.lst (nts Q))) (some (.str (mk [])))) = .ok (rngL 0 cs.length) := by
    simp -implicitDefEqProofs only [evB, evS, evE, evL, evAnd, evOr, evIfs, evO, evI, part, R_ok_bind, R_ok_map, seq_nx, seq_rt, seq_bk, res_rt, res_nx, lk_0, lk_s, asL_lst, tru_bl, tru_int, cd_non, cd_bl, cd_int, cd_str, ceq_str, cne_str, ceq_int, cne_int, ceq_bl, cne_bl, clt_int, cle_int, cgt_int, cge_int, badd_int, bsub_int, len_lst, len_rol, abs_int, int_int, int_bl, cin_map, cnin_map, List.set_cons_zero, List.set_cons_succ, if_true, if_false, ite_true, ite_false, Bool.false_eq_true, Bool.not_true, Bool.not_false, Bool.and_true, Bool.true_and, Bool.and_false, Bool.false_and, Bool.or_true, Bool.true_or, Bool.or_false, Bool.false_or, reduceCtorEq, decide_true, decide_false, len_str cs hL, rngD_nat cs.length (by omega)]
  obtain ⟨ρ', e, b7, rfl⟩ := for_inv (tg := .v 7) (b := evB (F 4) fuel [.ite (.cmp .notIn (.var 7) (.var 12)) [.asg 13 (.bin .add (.var 13) (.idx (.var 3) (.var 7)))] []]) (xs := rngL 0 cs.length) (ρ := en sc ds i (some (.str (mk cs))) a4 a5 a6 a7 a8 a9 a10 a11 (some (.lst (nts Q))) (some (.str (mk []))))
    (fun j ρ => ∃ b7, ρ = en sc ds i (some (.str (mk cs))) a4 a5 a6 b7 a8 a9 a10 a11 (some (.lst (nts Q))) (some (.str (mk (cut Q 0 (cs.take j)))))) ⟨a7, rfl⟩ (by
      rintro j x ρ ex ⟨b7, rfl⟩
      obtain ⟨hj, rfl⟩ := rngL_get ex
      refine ⟨_, en sc ds i (some (.str (mk cs))) a4 a5 a6 (some (.int j)) a8 a9 a10 a11 (some (.lst (nts Q))) (some (.str (mk (cut Q 0 (cs.take (j + 1)))))), rfl, ?_, some (.int j), rfl⟩
      rw [cut_one Q cs j hj]
      have ix := idx_str hj hL
      have hcl := cut_len Q (cs.take j) 0
      have htl : (cs.take j).length ≤ cs.length := List.length_take_le' _ _
      have ba := badd_str (cut Q 0 (cs.take j)) [cs[j]] (lim_le (by simp only [List.length_cons, List.length_nil]; omega))
      generalize cut Q 0 (cs.take j) = d at ba ⊢
      by_cases h : j ∈ Q
      · simp -implicitDefEqProofs only [evB, evS, evE, evL, evAnd, evOr, evIfs, evO, evI, part, R_ok_bind, R_ok_map, seq_nx, seq_rt, seq_bk, res_rt, res_nx, lk_0, lk_s, asL_lst, tru_bl, tru_int, cd_non, cd_bl, cd_int, cd_str, ceq_str, cne_str, ceq_int, cne_int, ceq_bl, cne_bl, clt_int, cle_int, cgt_int, cge_int, badd_int, bsub_int, len_lst, len_rol, abs_int, int_int, int_bl, cin_map, cnin_map, List.set_cons_zero, List.set_cons_succ, if_true, if_false, ite_true, ite_false, Bool.false_eq_true, Bool.not_true, Bool.not_false, Bool.and_true, Bool.true_and, Bool.and_false, Bool.false_and, Bool.or_true, Bool.true_or, Bool.or_false, Bool.false_or, reduceCtorEq, decide_true, decide_false, in_nts, h, List.append_nil]
      · simp -implicitDefEqProofs only [evB, evS, evE, evL, evAnd, evOr, evIfs, evO, evI, part, R_ok_bind, R_ok_map, seq_nx, seq_rt, seq_bk, res_rt, res_nx, lk_0, lk_s, asL_lst, tru_bl, tru_int, cd_non, cd_bl, cd_int, cd_str, ceq_str, cne_str, ceq_int, cne_int, ceq_bl, cne_bl, clt_int, cle_int, cgt_int, cge_int, badd_int, bsub_int, len_lst, len_rol, abs_int, int_int, int_bl, cin_map, cnin_map, List.set_cons_zero, List.set_cons_succ, if_true, if_false, ite_true, ite_false, Bool.false_eq_true, Bool.not_true, Bool.not_false, Bool.and_true, Bool.true_and, Bool.and_false, Bool.false_and, Bool.or_true, Bool.true_or, Bool.or_false, Bool.false_or, reduceCtorEq, decide_true, decide_false, in_nts, h, ix, ba])
  rw [rngL_len, List.take_length] at e
  refine ⟨b7, fun ss => ?_⟩
  rw [evB_asg (d := .str (mk [])) (by simp -implicitDefEqProofs only [evB, evS, evE, evL, evAnd, evOr, evIfs, evO, evI, part, R_ok_bind, R_ok_map, seq_nx, seq_rt, seq_bk, res_rt, res_nx, lk_0, lk_s, asL_lst, tru_bl, tru_int, cd_non, cd_bl, cd_int, cd_str, ceq_str, cne_str, ceq_int, cne_int, ceq_bl, cne_bl, clt_int, cle_int, cgt_int, cge_int, badd_int, bsub_int, len_lst, len_rol, abs_int, int_int, int_bl, cin_map, cnin_map, List.set_cons_zero, List.set_cons_succ, if_true, if_false, ite_true, ite_false, Bool.false_eq_true, Bool.not_true, Bool.not_false, Bool.and_true, Bool.true_and, Bool.and_false, Bool.false_and, Bool.or_true, Bool.true_or, Bool.or_false, Bool.false_or, reduceCtorEq, decide_true, decide_false, l0])]
  show evB (F 4) fuel _ (en sc ds i (some (.str (mk cs))) a4 a5 a6 a7 a8 a9 a10 a11 (some (.lst (nts Q))) (some (.str (mk [])))) = _
  rw [evB_nx ((evS_forE hI).trans e)]
def lls (all : List (List Nat)) : List D := all.map fun one => .lst (nts one)
/-- the lists of brackets to strike -/
theorem seg_lists (sc : D) (ds : List Nat) (i : Nat) (cs Q pls' : List Nat) (hp : pls'.length ≤ 12) (a3 a4 a6 a7 a8 a9 a12 a13 : Option D) (hQ : Q.length ≤ 1000) : ∃ all b7, (∀ one ∈ all, ∀ k ∈ one, k ∈ pls') ∧
    ∀ ss, evB (F 4) fuel (.for [0, 99, 0, 0, 0, 1, 1, 0, 99, 99, 0, 1, 0, 0] (.v 7) (.it (.var 10)) [.asg 11 (.bin .add (.var 11) (.lc [12] (.v 12) (.it (.var 11)) (.cons (.cmp .lt (.c1 .len (.var 12)) (.bin .sub (.c1 .len (.var 5)) (.cst (.int 1)))) .nil) (.bin .add (.var 12) (.lst (.cons (.var 7) .nil)))))] :: ss) (en sc ds i a3 a4 (some (.lst (nts Q))) a6 a7 a8 a9 (some (.lst (nts pls'))) (some (.lst (lls [[]]))) a12 a13) = evB (F 4) fuel ss (en sc ds i a3 a4 (some (.lst (nts Q))) a6 b7 a8 a9 (some (.lst (nts pls'))) (some (.lst (lls all))) a12 a13) := by
  have hI : evI (F 4) (.it (.var 10)) (en sc ds i a3 a4 (some (.lst (nts Q))) a6 a7 a8 a9 (some (.lst (nts pls'))) (some (.lst (lls [[]]))) a12 a13) = .ok (nts pls') := by
    simp -implicitDefEqProofs only [evB, evS, evE, evL, evAnd, evOr, evIfs, evO, evI, part, R_ok_bind, R_ok_map, seq_nx, seq_rt, seq_bk, res_rt, res_nx, lk_0, lk_s, asL_lst, tru_bl, tru_int, cd_non, cd_bl, cd_int, cd_str, ceq_str, cne_str, ceq_int, cne_int, ceq_bl, cne_bl, clt_int, cle_int, cgt_int, cge_int, badd_int, bsub_int, len_lst, len_rol, abs_int, int_int, int_bl, cin_map, cnin_map, List.set_cons_zero, List.set_cons_succ, if_true, if_false, ite_true, ite_false, Bool.false_eq_true, Bool.not_true, Bool.not_false, Bool.and_true, Bool.true_and, Bool.and_false, Bool.false_and, Bool.or_true, Bool.true_or, Bool.or_false, Bool.false_or, reduceCtorEq, decide_true, decide_false, walk]
  obtain ⟨ρ', e, all, b7, h1, h2, rfl⟩ := for_inv (tg := .v 7) (b := evB (F 4) fuel [.asg 11 (.bin .add (.var 11) (.lc [12] (.v 12) (.it (.var 11)) (.cons (.cmp .lt (.c1 .len (.var 12)) (.bin .sub (.c1 .len (.var 5)) (.cst (.int 1)))) .nil) (.bin .add (.var 12) (.lst (.cons (.var 7) .nil)))))]) (xs := nts pls') (ρ := en sc ds i a3 a4 (some (.lst (nts Q))) a6 a7 a8 a9 (some (.lst (nts pls'))) (some (.lst (lls [[]]))) a12 a13)
    (fun j ρ => ∃ (all : List (List Nat)) (b7 : Option D), all.length ≤ 2 ^ j ∧ (∀ one ∈ all, one.length ≤ j ∧ ∀ k ∈ one, k ∈ pls') ∧ ρ = en sc ds i a3 a4 (some (.lst (nts Q))) a6 b7 a8 a9 (some (.lst (nts pls'))) (some (.lst (lls all))) a12 a13) ⟨[[]], a7, by decide, by simp, rfl⟩ (by
      rintro j x ρ ex ⟨all, b7, h1, h2, rfl⟩
      rw [List.getElem?_map] at ex
      cases ey : pls'[j]? with
      | none => rw [ey] at ex; cases ex
      | some p =>
        rw [ey] at ex
        obtain rfl : D.int (p : Nat) = x := by simpa using ex
        obtain ⟨hj, hp'⟩ := List.getElem?_eq_some_iff.mp ey
        have hm : p ∈ pls' := hp' ▸ List.getElem_mem hj
        have hpow : (2 : Nat) ^ j ≤ 4096 := Nat.le_trans (Nat.pow_le_pow_right (by decide) (show j ≤ 12 by omega)) (by decide)
        have hpow2 : (2 : Nat) ^ (j + 1) = 2 * 2 ^ j := by rw [Nat.pow_succ]; omega
        let big := all.filter fun one => decide ((one.length : Int) < (Q.length : Int) - 1)
        have hbig : big.length ≤ all.length := List.length_filter_le _ _
        have hf : ∀ (all : List (List Nat)), (lls all).filterMap (fun d => match d with | .lst xs => if decide ((xs.length : Int) < (Q.length : Int) - 1) then some (D.lst (xs ++ [D.int p])) else none | _ => none) = lls ((all.filter fun one => decide ((one.length : Int) < (Q.length : Int) - 1)).map fun one => one ++ [p]) := fun all => by
          induction all with
          | nil => rfl
          | cons one all ih =>
            have hlen : (nts one).length = one.length := List.length_map _
            simp only [lls, List.map_cons, List.filterMap_cons, hlen, List.filter_cons] at ih ⊢
            by_cases hc : (one.length : Int) < (Q.length : Int) - 1
            · simp only [hc, decide_true, if_true, List.map_cons, ih]
              congr 2
              simp [nts]
            · simp only [hc, decide_false, Bool.false_eq_true, if_false, ih]
        have hc := lc_ev (F := F 4) (own := [12]) (tg := .v 12) (it := .it (.var 11)) (ifs := .cons (.cmp .lt (.c1 .len (.var 12)) (.bin .sub (.c1 .len (.var 5)) (.cst (.int 1)))) .nil) (e := .bin .add (.var 12) (.lst (.cons (.var 7) .nil))) (ρ := en sc ds i a3 a4 (some (.lst (nts Q))) a6 (some (.int p)) a8 a9 (some (.lst (nts pls'))) (some (.lst (lls all))) a12 a13) (xs := lls all)
          (fun d => match d with | .lst xs => if decide ((xs.length : Int) < (Q.length : Int) - 1) then some (D.lst (xs ++ [D.int p])) else none | _ => none) (by simp -implicitDefEqProofs only [evB, evS, evE, evL, evAnd, evOr, evIfs, evO, evI, part, R_ok_bind, R_ok_map, seq_nx, seq_rt, seq_bk, res_rt, res_nx, lk_0, lk_s, asL_lst, tru_bl, tru_int, cd_non, cd_bl, cd_int, cd_str, ceq_str, cne_str, ceq_int, cne_int, ceq_bl, cne_bl, clt_int, cle_int, cgt_int, cge_int, badd_int, bsub_int, len_lst, len_rol, abs_int, int_int, int_bl, cin_map, cnin_map, List.set_cons_zero, List.set_cons_succ, if_true, if_false, ite_true, ite_false, Bool.false_eq_true, Bool.not_true, Bool.not_false, Bool.and_true, Bool.true_and, Bool.and_false, Bool.false_and, Bool.or_true, Bool.true_or, Bool.or_false, Bool.false_or, reduceCtorEq, decide_true, decide_false, walk]) (by
            intro x hx
            obtain ⟨one, ho, rfl⟩ := List.mem_map.mp hx
            have hlen : (nts one).length = one.length := List.length_map _
            have hQl : (nts Q).length = Q.length := List.length_map _
            have one1 : ([D.int p] : List D).length ≤ LIM := lim_le (by simp)
            have ba := badd_lst (nts one) [D.int p] (lim_le (by rw [hlen]; have := (h2 one ho).1; simp only [List.length_cons, List.length_nil]; omega))
            show (R.ok (en sc ds i a3 a4 (some (.lst (nts Q))) a6 (some (.int p)) a8 a9 (some (.lst (nts pls'))) (some (.lst (lls all))) (some (.lst (nts one))) a13)).bind _ = _
            by_cases hc : (one.length : Int) < (Q.length : Int) - 1
            · simp -implicitDefEqProofs only [evB, evS, evE, evL, evAnd, evOr, evIfs, evO, evI, part, R_ok_bind, R_ok_map, seq_nx, seq_rt, seq_bk, res_rt, res_nx, lk_0, lk_s, asL_lst, tru_bl, tru_int, cd_non, cd_bl, cd_int, cd_str, ceq_str, cne_str, ceq_int, cne_int, ceq_bl, cne_bl, clt_int, cle_int, cgt_int, cge_int, badd_int, bsub_int, len_lst, len_rol, abs_int, int_int, int_bl, cin_map, cnin_map, List.set_cons_zero, List.set_cons_succ, if_true, if_false, ite_true, ite_false, Bool.false_eq_true, Bool.not_true, Bool.not_false, Bool.and_true, Bool.true_and, Bool.and_false, Bool.false_and, Bool.or_true, Bool.true_or, Bool.or_false, Bool.false_or, reduceCtorEq, decide_true, decide_false, hlen, hQl, hc, one1, ba]
            · simp -implicitDefEqProofs only [evB, evS, evE, evL, evAnd, evOr, evIfs, evO, evI, part, R_ok_bind, R_ok_map, seq_nx, seq_rt, seq_bk, res_rt, res_nx, lk_0, lk_s, asL_lst, tru_bl, tru_int, cd_non, cd_bl, cd_int, cd_str, ceq_str, cne_str, ceq_int, cne_int, ceq_bl, cne_bl, clt_int, cle_int, cgt_int, cge_int, badd_int, bsub_int, len_lst, len_rol, abs_int, int_int, int_bl, cin_map, cnin_map, List.set_cons_zero, List.set_cons_succ, if_true, if_false, ite_true, ite_false, Bool.false_eq_true, Bool.not_true, Bool.not_false, Bool.and_true, Bool.true_and, Bool.and_false, Bool.false_and, Bool.or_true, Bool.true_or, Bool.or_false, Bool.false_or, reduceCtorEq, decide_true, decide_false, hlen, hQl, hc]) (by
            show (List.map _ _).length ≤ _
            rw [List.length_map]; omega)
        rw [hf all] at hc
        have ba2 := badd_lst (lls all) (lls (big.map fun one => one ++ [p])) (lim_le (by
          show (List.map _ _).length + (List.map _ _).length ≤ _
          rw [List.length_map, List.length_map, List.length_map]; omega))
        refine ⟨_, en sc ds i a3 a4 (some (.lst (nts Q))) a6 (some (.int p)) a8 a9 (some (.lst (nts pls'))) (some (.lst (lls (all ++ big.map fun one => one ++ [p])))) a12 a13, rfl, ?_, all ++ big.map fun one => one ++ [p], some (.int p), ?_, ?_, rfl⟩
        · refine (evB_asg (d := .lst (lls (all ++ big.map fun one => one ++ [p]))) ?_).trans evB_nil
          show evE (F 4) _ (en sc ds i a3 a4 (some (.lst (nts Q))) a6 (some (.int p)) a8 a9 (some (.lst (nts pls'))) (some (.lst (lls all))) a12 a13) = _
          rw [evE, hc]
          simp -implicitDefEqProofs only [evB, evS, evE, evL, evAnd, evOr, evIfs, evO, evI, part, R_ok_bind, R_ok_map, seq_nx, seq_rt, seq_bk, res_rt, res_nx, lk_0, lk_s, asL_lst, tru_bl, tru_int, cd_non, cd_bl, cd_int, cd_str, ceq_str, cne_str, ceq_int, cne_int, ceq_bl, cne_bl, clt_int, cle_int, cgt_int, cge_int, badd_int, bsub_int, len_lst, len_rol, abs_int, int_int, int_bl, cin_map, cnin_map, List.set_cons_zero, List.set_cons_succ, if_true, if_false, ite_true, ite_false, Bool.false_eq_true, Bool.not_true, Bool.not_false, Bool.and_true, Bool.true_and, Bool.and_false, Bool.false_and, Bool.or_true, Bool.true_or, Bool.or_false, Bool.false_or, reduceCtorEq, decide_true, decide_false]
          rw [ba2]
          simp [lls]
        · rw [List.length_append, List.length_map, hpow2]; omega
        · intro one ho
          rcases List.mem_append.mp ho with z | z
          · exact ⟨Nat.le_succ_of_le (h2 one z).1, (h2 one z).2⟩
          · obtain ⟨o, hz, rfl⟩ := List.mem_map.mp z
            obtain ⟨q1, q2⟩ := h2 o (List.mem_filter.mp hz).1
            refine ⟨by rw [List.length_append]; simp only [List.length_cons, List.length_nil]; omega, fun k hk => ?_⟩
            rcases List.mem_append.mp hk with w | w
            · exact q2 k w
            · simp only [List.mem_singleton] at w
              rw [w]; exact hm)
  exact ⟨all, b7, fun one ho => (h2 one ho).2, fun ss => by rw [evB_nx ((evS_forE hI).trans e)]⟩
end K04
end TW

/-! the law -/
namespace TW
namespace K04
open PySem PySem.Spec PyProof.Rows L2
theorem lt13 {cs : List Nat} (hl : cs.length ≤ 12) {u : List Br} (hu : ∀ x ∈ u, x ∈ pl 0 false cs) : ∀ n ∈ u.map (·.1), n < 13 := fun n hn => by
  obtain ⟨x, hx, rfl⟩ := List.mem_map.mp hn
  obtain ⟨h1, _⟩ := pl_char (hu x hx)
  omega
theorem none_told (u : List Br) : (((u.map (·.1)).map fun (n : Nat) => (n : Int)) == ([] : List Int)) = decide ((u.map (·.1)).length = 0) := by
  cases u with
  | nil => simp
  | cons x u => simp
/-- the end of a turn: the numbers are as they were -/
def Good (sc : D) (ds : List Nat) (i : Nat) (r : R Ou) : Prop := ∃ b3 b4 b5 b6 b7 b8 b9 b10 b11 b12 b13, r = .ok (.nx (en sc ds i b3 b4 b5 b6 b7 b8 b9 b10 b11 b12 b13))
/-- one turn of the law -/
theorem ev_turnbody (sc : D) (ds : List Nat) (hs : ∀ d ∈ ds, d < 65536) (i : Nat) (a3 a4 a5 a6 a7 a8 a9 a10 a11 a12 a13 : Option D) : Good sc ds i (evB (F 4) fuel [.asg 3 (.cst (.str "")), .for [0, 99, 0, 1, 0, 0, 0, 0, 0, 0, 0, 0, 0, 0] (.v 4) (.rg1 (.fn 5 "_law_mix" (.cons (.var 1) (.cons (.bin .add (.cst (.int 10)) (.var 2)) (.cons (.cst (.int 13)) .nil))))) [.asg 3 (.bin .add (.var 3) (.idx (.cst (.str "{}{}{}a;\n ")) (.fn 5 "_law_mix" (.cons (.var 1) (.cons (.bin .add (.bin .add (.cst (.int 20)) (.bin .mul (.cst (.int 14)) (.var 2))) (.var 4)) (.cons (.cst (.int 10)) .nil))))))], .lv [0, 99, 0, 0, 0, 0, 0, 0, 0, 0, 0, 0, 0, 0], .asg 5 (.fn 1 "loose" (.cons (.var 3) .nil)), .ite (.cmp .ne (.c1 .repr (.var 5)) (.c1 .repr (.fn 8 "_law_loose" (.cons (.var 3) .nil)))) [.ret (.cst (.bl false))] [], .asg 6 (.cst (.str "")), .for [0, 99, 0, 0, 0, 1, 1, 0, 0, 0, 0, 0, 0, 0] (.v 7) (.rg1 (.c1 .len (.var 3))) [.ite (.cmp .notIn (.var 7) (.var 5)) [.asg 6 (.bin .add (.var 6) (.idx (.var 3) (.var 7)))] []], .ite (.or (.cmp .ne (.c1 .repr (.fn 2 "struck" (.cons (.var 3) .nil))) (.c1 .repr (.var 6))) (.cons (.not (.fn 7 "_law_fits" (.cons (.fn 2 "struck" (.cons (.var 3) .nil)) .nil))) .nil)) [.ret (.cst (.bl false))] [], .asg 8 (.c1 .len (.lc [7] (.v 7) (.it (.var 5)) (.cons (.cmp .eq (.idx (.var 3) (.var 7)) (.cst (.str "}"))) .nil) (.var 7))), .asg 9 (.bin .sub (.c1 .len (.var 5)) (.var 8)), .ite (.or (.cmp .ne (.fn 3 "closed" (.cons (.var 3) .nil)) (.bin .add (.bin .add (.bin .mul (.cst (.str "{")) (.var 8)) (.var 3)) (.bin .mul (.bin .add (.cst (.str "\n")) (.bin .mul (.cst (.str "}")) (.var 9))) (.c1 .int (.cmp .gt (.var 9) (.cst (.int 0))))))) (.cons (.not (.fn 7 "_law_fits" (.cons (.fn 3 "closed" (.cons (.var 3) .nil)) .nil))) .nil)) [.ret (.cst (.bl false))] [], .asg 10 (.fn 6 "_law_places" (.cons (.var 3) .nil)), .asg 11 (.lst (.cons (.lst .nil) .nil)), .lv [0, 99, 0, 0, 0, 1, 1, 0, 99, 99, 0, 99, 0, 0], .for [0, 99, 0, 0, 0, 1, 1, 0, 99, 99, 0, 1, 0, 0] (.v 7) (.it (.var 10)) [.asg 11 (.bin .add (.var 11) (.lc [12] (.v 12) (.it (.var 11)) (.cons (.cmp .lt (.c1 .len (.var 12)) (.bin .sub (.c1 .len (.var 5)) (.cst (.int 1)))) .nil) (.bin .add (.var 12) (.lst (.cons (.var 7) .nil)))))], .lv [0, 99, 0, 0, 0, 1, 1, 0, 99, 99, 0, 0, 0, 0], .for [0, 99, 0, 0, 0, 1, 1, 0, 99, 99, 0, 0, 0, 0] (.v 12) (.it (.var 11)) [.ite (.cmp .lt (.c1 .len (.var 12)) (.c1 .len (.var 5))) [.asg 13 (.cst (.str "")), .for [0, 99, 0, 0, 0, 1, 1, 0, 99, 99, 0, 0, 0, 1] (.v 7) (.rg1 (.c1 .len (.var 3))) [.ite (.cmp .notIn (.var 7) (.var 12)) [.asg 13 (.bin .add (.var 13) (.idx (.var 3) (.var 7)))] []], .ite (.fn 7 "_law_fits" (.cons (.var 13) .nil)) [.ret (.cst (.bl false))] []] []], .ite (.cmp .ne (.cmp .eq (.var 5) (.lst .nil)) (.fn 7 "_law_fits" (.cons (.var 3) .nil))) [.ret (.cst (.bl false))] []] (en sc ds i a3 a4 a5 a6 a7 a8 a9 a10 a11 a12 a13)) := by
  obtain ⟨cs, b4, hl, hc, e0⟩ := seg_text sc ds hs i a3 a4 a5 a6 a7 a8 a9 a10 a11 a12 a13
  obtain ⟨u, hred, hnp, elo⟩ := ev_lloose 2 cs (by omega)
  have hu := red_mem hred
  have hT : lo [] [] (pl 0 false cs) = u.map (·.1) := by
    rw [lo_red hred, lo_nopair u [] hnp]
    rfl
  have e1 := ev_loose 2 cs (by omega)
  have hpl := pl_len cs 0 false
  have hul : u.length ≤ 12 := by
    have h1 := lo_len (pl 0 false cs) [] []
    have h2 := lo_len u [] []
    have h3 : (u.map (·.1)).length = u.length := List.length_map _
    have h4 : total 0 (sg (pl 0 false cs)) ≤ (pl 0 false cs).length := by
      have := total_sub (List.nil_sublist (sg (pl 0 false cs))) 0
      have e : (sg (pl 0 false cs)).length = (pl 0 false cs).length := List.length_map _
      simp only [List.length_nil, total] at this
      omega
    rw [hT, h3] at h1
    simp only [List.length_nil, Nat.zero_add] at h1
    omega
  rw [hT] at e1
  rw [pls_nts] at elo
  have rp := repr_nts (u.map (·.1)) (lt13 hl hu) (by rw [List.length_map]; omega)
  rw [e0]
  -- told
  rw [evB_asg (d := .lst (nts (u.map (·.1)))) (by simp -implicitDefEqProofs only [evB, evS, evE, evL, evAnd, evOr, evIfs, evO, evI, part, R_ok_bind, R_ok_map, seq_nx, seq_rt, seq_bk, res_rt, res_nx, lk_0, lk_s, asL_lst, tru_bl, tru_int, cd_non, cd_bl, cd_int, cd_str, ceq_str, cne_str, ceq_int, cne_int, ceq_bl, cne_bl, clt_int, cle_int, cgt_int, cge_int, badd_int, bsub_int, len_lst, len_rol, abs_int, int_int, int_bl, cin_map, cnin_map, List.set_cons_zero, List.set_cons_succ, if_true, if_false, ite_true, ite_false, Bool.false_eq_true, Bool.not_true, Bool.not_false, Bool.and_true, Bool.true_and, Bool.and_false, Bool.false_and, Bool.or_true, Bool.true_or, Bool.or_false, Bool.false_or, reduceCtorEq, decide_true, decide_false, e1])]
  show Good sc ds i (evB (F 4) fuel _ (en sc ds i (some (.str (mk cs))) b4 (some (.lst (nts (u.map (·.1))))) a6 a7 a8 a9 a10 a11 a12 a13))
  rw [evB_skip (by simp -implicitDefEqProofs only [evB, evS, evE, evL, evAnd, evOr, evIfs, evO, evI, part, R_ok_bind, R_ok_map, seq_nx, seq_rt, seq_bk, res_rt, res_nx, lk_0, lk_s, asL_lst, tru_bl, tru_int, cd_non, cd_bl, cd_int, cd_str, ceq_str, cne_str, ceq_int, cne_int, ceq_bl, cne_bl, clt_int, cle_int, cgt_int, cge_int, badd_int, bsub_int, len_lst, len_rol, abs_int, int_int, int_bl, cin_map, cnin_map, List.set_cons_zero, List.set_cons_succ, if_true, if_false, ite_true, ite_false, Bool.false_eq_true, Bool.not_true, Bool.not_false, Bool.and_true, Bool.true_and, Bool.and_false, Bool.false_and, Bool.or_true, Bool.true_or, Bool.or_false, Bool.false_or, reduceCtorEq, decide_true, decide_false, elo, rp, cne_same])]
  -- due
  obtain ⟨b7, e2⟩ := seg_due sc ds i cs (u.map (·.1)) hl b4 a7 a8 a9 a10 a11 a12 a13 a6
  rw [e2]
  have es := ev_struck 1 cs (by omega)
  rw [hT] at es
  have hcc : ∀ c ∈ cut (u.map (·.1)) 0 cs, c < 1000 := fun c h => hc c (cut_mem _ _ _ _ h)
  have hcl := cut_len (u.map (·.1)) cs 0
  have rs := repr_str (cut (u.map (·.1)) 0 cs) hcc (by omega)
  have f1 := ev_fits 2 (cut (u.map (·.1)) 0 cs) (by omega)
  rw [fits_cut hred] at f1
  rw [evB_skip (by simp -implicitDefEqProofs only [evB, evS, evE, evL, evAnd, evOr, evIfs, evO, evI, part, R_ok_bind, R_ok_map, seq_nx, seq_rt, seq_bk, res_rt, res_nx, lk_0, lk_s, asL_lst, tru_bl, tru_int, cd_non, cd_bl, cd_int, cd_str, ceq_str, cne_str, ceq_int, cne_int, ceq_bl, cne_bl, clt_int, cle_int, cgt_int, cge_int, badd_int, bsub_int, len_lst, len_rol, abs_int, int_int, int_bl, cin_map, cnin_map, List.set_cons_zero, List.set_cons_succ, if_true, if_false, ite_true, ite_false, Bool.false_eq_true, Bool.not_true, Bool.not_false, Bool.and_true, Bool.true_and, Bool.and_false, Bool.false_and, Bool.or_true, Bool.true_or, Bool.or_false, Bool.false_or, reduceCtorEq, decide_true, decide_false, es, rs, cne_same, f1])]
  -- ends, more
  have hn := cnt_len (sg u)
  have hsl : (sg u).length = u.length := List.length_map _
  have ht : (nts (u.map (·.1))).length = u.length := by simp [nts]
  have hce := close_len cs D.int u hu
  have hcm := fits_clo hred hnp
  have ecl := ev_closed 1 cs u (by omega) hu (by omega) hT
  have hclo : (clo cs ((sg u).count true) ((sg u).count false)).length ≤ 1000 := by
    unfold clo
    rw [List.length_append, List.length_append, List.length_replicate]
    split
    · rw [List.length_cons, List.length_replicate]; omega
    · simp only [List.length_nil]; omega
  have f2 := ev_fits 2 _ hclo
  rw [hcm] at f2
  have hlc := lc_ev (F := F 4) (own := [7]) (tg := .v 7) (it := .it (.var 5)) (ifs := .cons (.cmp .eq (.idx (.var 3) (.var 7)) (.cst (.str "}"))) .nil) (e := .var 7) (ρ := en sc ds i (some (.str (mk cs))) b4 (some (.lst (nts (u.map (·.1))))) (some (.str (mk (cut (u.map (·.1)) 0 cs)))) b7 a8 a9 a10 a11 a12 a13) (xs := nts (u.map (·.1))) (closeG cs D.int) (by simp -implicitDefEqProofs only [evB, evS, evE, evL, evAnd, evOr, evIfs, evO, evI, part, R_ok_bind, R_ok_map, seq_nx, seq_rt, seq_bk, res_rt, res_nx, lk_0, lk_s, asL_lst, tru_bl, tru_int, cd_non, cd_bl, cd_int, cd_str, ceq_str, cne_str, ceq_int, cne_int, ceq_bl, cne_bl, clt_int, cle_int, cgt_int, cge_int, badd_int, bsub_int, len_lst, len_rol, abs_int, int_int, int_bl, cin_map, cnin_map, List.set_cons_zero, List.set_cons_succ, if_true, if_false, ite_true, ite_false, Bool.false_eq_true, Bool.not_true, Bool.not_false, Bool.and_true, Bool.true_and, Bool.and_false, Bool.false_and, Bool.or_true, Bool.true_or, Bool.or_false, Bool.false_or, reduceCtorEq, decide_true, decide_false, walk]) (by
      intro x hx
      obtain ⟨q, c, rfl, hi, hc⟩ := close_at (by omega) hu hx
      show (R.ok (en sc ds i (some (.str (mk cs))) b4 (some (.lst (nts (u.map (·.1))))) (some (.str (mk (cut (u.map (·.1)) 0 cs)))) (some (.int q)) a8 a9 a10 a11 a12 a13)).bind _ = _
      by_cases h : c = 125
      · subst h
        simp -implicitDefEqProofs only [evB, evS, evE, evL, evAnd, evOr, evIfs, evO, evI, part, R_ok_bind, R_ok_map, seq_nx, seq_rt, seq_bk, res_rt, res_nx, lk_0, lk_s, asL_lst, tru_bl, tru_int, cd_non, cd_bl, cd_int, cd_str, ceq_str, cne_str, ceq_int, cne_int, ceq_bl, cne_bl, clt_int, cle_int, cgt_int, cge_int, badd_int, bsub_int, len_lst, len_rol, abs_int, int_int, int_bl, cin_map, cnin_map, List.set_cons_zero, List.set_cons_succ, if_true, if_false, ite_true, ite_false, Bool.false_eq_true, Bool.not_true, Bool.not_false, Bool.and_true, Bool.true_and, Bool.and_false, Bool.false_and, Bool.or_true, Bool.true_or, Bool.or_false, Bool.false_or, reduceCtorEq, decide_true, decide_false, hi, hc, l125, one_beq, closeG, Int.toNat_natCast]
      · simp -implicitDefEqProofs only [evB, evS, evE, evL, evAnd, evOr, evIfs, evO, evI, part, R_ok_bind, R_ok_map, seq_nx, seq_rt, seq_bk, res_rt, res_nx, lk_0, lk_s, asL_lst, tru_bl, tru_int, cd_non, cd_bl, cd_int, cd_str, ceq_str, cne_str, ceq_int, cne_int, ceq_bl, cne_bl, clt_int, cle_int, cgt_int, cge_int, badd_int, bsub_int, len_lst, len_rol, abs_int, int_int, int_bl, cin_map, cnin_map, List.set_cons_zero, List.set_cons_succ, if_true, if_false, ite_true, ite_false, Bool.false_eq_true, Bool.not_true, Bool.not_false, Bool.and_true, Bool.true_and, Bool.and_false, Bool.false_and, Bool.or_true, Bool.true_or, Bool.or_false, Bool.false_or, reduceCtorEq, decide_true, decide_false, hi, hc, l125, one_beq, closeG, Int.toNat_natCast, h, Option.some.injEq]) (by rw [ht]; omega)
  generalize (sg u).count true = e at hn hce ecl f2 hclo
  generalize (sg u).count false = m at hn ecl f2 hclo
  rw [evB_asg (d := .int e) (by rw [evE, hlc, R_ok_bind, len_lst, hce])]
  show Good sc ds i (evB (F 4) fuel _ (en sc ds i (some (.str (mk cs))) b4 (some (.lst (nts (u.map (·.1))))) (some (.str (mk (cut (u.map (·.1)) 0 cs)))) b7 (some (.int e)) a9 a10 a11 a12 a13))
  rw [evB_asg (d := .int m) (by
    simp -implicitDefEqProofs only [evB, evS, evE, evL, evAnd, evOr, evIfs, evO, evI, part, R_ok_bind, R_ok_map, seq_nx, seq_rt, seq_bk, res_rt, res_nx, lk_0, lk_s, asL_lst, tru_bl, tru_int, cd_non, cd_bl, cd_int, cd_str, ceq_str, cne_str, ceq_int, cne_int, ceq_bl, cne_bl, clt_int, cle_int, cgt_int, cge_int, badd_int, bsub_int, len_lst, len_rol, abs_int, int_int, int_bl, cin_map, cnin_map, List.set_cons_zero, List.set_cons_succ, if_true, if_false, ite_true, ite_false, Bool.false_eq_true, Bool.not_true, Bool.not_false, Bool.and_true, Bool.true_and, Bool.and_false, Bool.false_and, Bool.or_true, Bool.true_or, Bool.or_false, Bool.false_or, reduceCtorEq, decide_true, decide_false, ht]
    congr 2
    omega)]
  show Good sc ds i (evB (F 4) fuel _ (en sc ds i (some (.str (mk cs))) b4 (some (.lst (nts (u.map (·.1))))) (some (.str (mk (cut (u.map (·.1)) 0 cs)))) b7 (some (.int e)) (some (.int m)) a10 a11 a12 a13))
  have m1 := bmul_str [123] e (lim_le (by omega)) (lim_le (by simp only [List.length_cons, List.length_nil]; omega))
  have m2 := bmul_str [125] m (lim_le (by omega)) (lim_le (by simp only [List.length_cons, List.length_nil]; omega))
  rw [rep_one] at m1 m2
  have b1 := badd_str (List.replicate e 123) cs (lim_le (by rw [List.length_replicate]; omega))
  have b2 := badd_str [10] (List.replicate m 125) (lim_le (by rw [List.length_replicate]; simp only [List.length_cons, List.length_nil]; omega))
  have hrhs : evE (F 4) (.bin .add (.bin .add (.bin .mul (.cst (.str "{")) (.var 8)) (.var 3)) (.bin .mul (.bin .add (.cst (.str "\n")) (.bin .mul (.cst (.str "}")) (.var 9))) (.c1 .int (.cmp .gt (.var 9) (.cst (.int 0)))))) (en sc ds i (some (.str (mk cs))) b4 (some (.lst (nts (u.map (·.1))))) (some (.str (mk (cut (u.map (·.1)) 0 cs)))) b7 (some (.int e)) (some (.int m)) a10 a11 a12 a13) = .ok (.str (mk (clo cs e m))) := by
    by_cases hm : 0 < m
    · have hm' : (0 : Int) < (m : Int) := by omega
      have m3 : bin .mul (.str (mk ([10] ++ List.replicate m 125))) (.int 1) = .ok (.str (mk (10 :: List.replicate m 125))) := by
        have := bmul_str ([10] ++ List.replicate m 125) 1 (by decide) (lim_le (by rw [List.length_append, List.length_replicate]; simp only [List.length_cons, List.length_nil]; omega))
        rw [show (List.replicate 1 ([10] ++ List.replicate m 125)).flatten = 10 :: List.replicate m 125 by simp] at this
        exact this
      have b3 := badd_str (List.replicate e 123 ++ cs) (10 :: List.replicate m 125) (lim_le (by rw [List.length_append, List.length_replicate, List.length_cons, List.length_replicate]; omega))
      simp -implicitDefEqProofs only [evB, evS, evE, evL, evAnd, evOr, evIfs, evO, evI, part, R_ok_bind, R_ok_map, seq_nx, seq_rt, seq_bk, res_rt, res_nx, lk_0, lk_s, asL_lst, tru_bl, tru_int, cd_non, cd_bl, cd_int, cd_str, ceq_str, cne_str, ceq_int, cne_int, ceq_bl, cne_bl, clt_int, cle_int, cgt_int, cge_int, badd_int, bsub_int, len_lst, len_rol, abs_int, int_int, int_bl, cin_map, cnin_map, List.set_cons_zero, List.set_cons_succ, if_true, if_false, ite_true, ite_false, Bool.false_eq_true, Bool.not_true, Bool.not_false, Bool.and_true, Bool.true_and, Bool.and_false, Bool.false_and, Bool.or_true, Bool.true_or, Bool.or_false, Bool.false_or, reduceCtorEq, decide_true, decide_false, l123, l125, l10, m1, m2, b1, b2, hm', m3, b3, clo, hm]
    · have hm' : ¬ (0 : Int) < (m : Int) := by omega
      have m3 : bin .mul (.str (mk ([10] ++ List.replicate m 125))) (.int 0) = .ok (.str (mk [])) := by
        have := bmul_str ([10] ++ List.replicate m 125) 0 (by decide) (lim_le (by simp))
        rw [show (List.replicate 0 ([10] ++ List.replicate m 125)).flatten = [] by simp] at this
        exact this
      have b3 := badd_str (List.replicate e 123 ++ cs) [] (lim_le (by rw [List.length_append, List.length_replicate]; simp only [List.length_nil]; omega))
      simp -implicitDefEqProofs only [evB, evS, evE, evL, evAnd, evOr, evIfs, evO, evI, part, R_ok_bind, R_ok_map, seq_nx, seq_rt, seq_bk, res_rt, res_nx, lk_0, lk_s, asL_lst, tru_bl, tru_int, cd_non, cd_bl, cd_int, cd_str, ceq_str, cne_str, ceq_int, cne_int, ceq_bl, cne_bl, clt_int, cle_int, cgt_int, cge_int, badd_int, bsub_int, len_lst, len_rol, abs_int, int_int, int_bl, cin_map, cnin_map, List.set_cons_zero, List.set_cons_succ, if_true, if_false, ite_true, ite_false, Bool.false_eq_true, Bool.not_true, Bool.not_false, Bool.and_true, Bool.true_and, Bool.and_false, Bool.false_and, Bool.or_true, Bool.true_or, Bool.or_false, Bool.false_or, reduceCtorEq, decide_true, decide_false, l123, l125, l10, m1, m2, b1, b2, hm', m3, b3, clo, hm]
  have hlhs : evE (F 4) (.fn 3 "closed" (.cons (.var 3) .nil)) (en sc ds i (some (.str (mk cs))) b4 (some (.lst (nts (u.map (·.1))))) (some (.str (mk (cut (u.map (·.1)) 0 cs)))) b7 (some (.int e)) (some (.int m)) a10 a11 a12 a13) = .ok (.str (mk (clo cs e m))) := by
    simp -implicitDefEqProofs only [evB, evS, evE, evL, evAnd, evOr, evIfs, evO, evI, part, R_ok_bind, R_ok_map, seq_nx, seq_rt, seq_bk, res_rt, res_nx, lk_0, lk_s, asL_lst, tru_bl, tru_int, cd_non, cd_bl, cd_int, cd_str, ceq_str, cne_str, ceq_int, cne_int, ceq_bl, cne_bl, clt_int, cle_int, cgt_int, cge_int, badd_int, bsub_int, len_lst, len_rol, abs_int, int_int, int_bl, cin_map, cnin_map, List.set_cons_zero, List.set_cons_succ, if_true, if_false, ite_true, ite_false, Bool.false_eq_true, Bool.not_true, Bool.not_false, Bool.and_true, Bool.true_and, Bool.and_false, Bool.false_and, Bool.or_true, Bool.true_or, Bool.or_false, Bool.false_or, reduceCtorEq, decide_true, decide_false, ecl]
  rw [evB_skip (by
    rw [evE, evE, hlhs, R_ok_bind, hrhs, R_ok_bind, cne_same, R_ok_bind, evOr, tru_bl, R_ok_bind, if_neg (by decide)]
    simp -implicitDefEqProofs only [evB, evS, evE, evL, evAnd, evOr, evIfs, evO, evI, part, R_ok_bind, R_ok_map, seq_nx, seq_rt, seq_bk, res_rt, res_nx, lk_0, lk_s, asL_lst, tru_bl, tru_int, cd_non, cd_bl, cd_int, cd_str, ceq_str, cne_str, ceq_int, cne_int, ceq_bl, cne_bl, clt_int, cle_int, cgt_int, cge_int, badd_int, bsub_int, len_lst, len_rol, abs_int, int_int, int_bl, cin_map, cnin_map, List.set_cons_zero, List.set_cons_succ, if_true, if_false, ite_true, ite_false, Bool.false_eq_true, Bool.not_true, Bool.not_false, Bool.and_true, Bool.true_and, Bool.and_false, Bool.false_and, Bool.or_true, Bool.true_or, Bool.or_false, Bool.false_or, reduceCtorEq, decide_true, decide_false, ecl, f2])]
  -- places, lists
  have ep := ev_lplaces 3 cs (by omega)
  rw [pls_nts] at ep
  rw [evB_asg (d := .lst (nts ((pl 0 false cs).map (·.1)))) (by simp -implicitDefEqProofs only [evB, evS, evE, evL, evAnd, evOr, evIfs, evO, evI, part, R_ok_bind, R_ok_map, seq_nx, seq_rt, seq_bk, res_rt, res_nx, lk_0, lk_s, asL_lst, tru_bl, tru_int, cd_non, cd_bl, cd_int, cd_str, ceq_str, cne_str, ceq_int, cne_int, ceq_bl, cne_bl, clt_int, cle_int, cgt_int, cge_int, badd_int, bsub_int, len_lst, len_rol, abs_int, int_int, int_bl, cin_map, cnin_map, List.set_cons_zero, List.set_cons_succ, if_true, if_false, ite_true, ite_false, Bool.false_eq_true, Bool.not_true, Bool.not_false, Bool.and_true, Bool.true_and, Bool.and_false, Bool.false_and, Bool.or_true, Bool.true_or, Bool.or_false, Bool.false_or, reduceCtorEq, decide_true, decide_false, ep])]
  show Good sc ds i (evB (F 4) fuel _ (en sc ds i (some (.str (mk cs))) b4 (some (.lst (nts (u.map (·.1))))) (some (.str (mk (cut (u.map (·.1)) 0 cs)))) b7 (some (.int e)) (some (.int m)) (some (.lst (nts ((pl 0 false cs).map (·.1))))) a11 a12 a13))
  rw [evB_asg (d := .lst (lls [[]])) (by
    have z : ([] : List D).length ≤ LIM := lim_le (by simp)
    have z1 : ([D.lst []] : List D).length ≤ LIM := lim_le (by simp)
    simp -implicitDefEqProofs only [evB, evS, evE, evL, evAnd, evOr, evIfs, evO, evI, part, R_ok_bind, R_ok_map, seq_nx, seq_rt, seq_bk, res_rt, res_nx, lk_0, lk_s, asL_lst, tru_bl, tru_int, cd_non, cd_bl, cd_int, cd_str, ceq_str, cne_str, ceq_int, cne_int, ceq_bl, cne_bl, clt_int, cle_int, cgt_int, cge_int, badd_int, bsub_int, len_lst, len_rol, abs_int, int_int, int_bl, cin_map, cnin_map, List.set_cons_zero, List.set_cons_succ, if_true, if_false, ite_true, ite_false, Bool.false_eq_true, Bool.not_true, Bool.not_false, Bool.and_true, Bool.true_and, Bool.and_false, Bool.false_and, Bool.or_true, Bool.true_or, Bool.or_false, Bool.false_or, reduceCtorEq, decide_true, decide_false, z, z1]
    rfl), evB_lv]
  show Good sc ds i (evB (F 4) fuel _ (en sc ds i (some (.str (mk cs))) b4 (some (.lst (nts (u.map (·.1))))) (some (.str (mk (cut (u.map (·.1)) 0 cs)))) b7 (some (.int e)) (some (.int m)) (some (.lst (nts ((pl 0 false cs).map (·.1))))) (some (.lst (lls [[]]))) a12 a13))
  obtain ⟨all, c7, hall, e3⟩ := seg_lists sc ds i cs (u.map (·.1)) ((pl 0 false cs).map (·.1)) (by rw [List.length_map]; omega) (some (.str (mk cs))) b4 (some (.str (mk (cut (u.map (·.1)) 0 cs)))) b7 (some (.int e)) (some (.int m)) a12 a13 (by rw [List.length_map]; omega)
  rw [e3, evB_lv]
  -- each list leaves some
  refine evB_forP (P := Good sc ds i) (J := fun _ ρ => ∃ c7 c12 c13, ρ = en sc ds i (some (.str (mk cs))) b4 (some (.lst (nts (u.map (·.1))))) (some (.str (mk (cut (u.map (·.1)) 0 cs)))) c7 (some (.int e)) (some (.int m)) (some (.lst (nts ((pl 0 false cs).map (·.1))))) (some (.lst (lls all))) c12 c13) (xs := lls all) (by simp -implicitDefEqProofs only [evB, evS, evE, evL, evAnd, evOr, evIfs, evO, evI, part, R_ok_bind, R_ok_map, seq_nx, seq_rt, seq_bk, res_rt, res_nx, lk_0, lk_s, asL_lst, tru_bl, tru_int, cd_non, cd_bl, cd_int, cd_str, ceq_str, cne_str, ceq_int, cne_int, ceq_bl, cne_bl, clt_int, cle_int, cgt_int, cge_int, badd_int, bsub_int, len_lst, len_rol, abs_int, int_int, int_bl, cin_map, cnin_map, List.set_cons_zero, List.set_cons_succ, if_true, if_false, ite_true, ite_false, Bool.false_eq_true, Bool.not_true, Bool.not_false, Bool.and_true, Bool.true_and, Bool.and_false, Bool.false_and, Bool.or_true, Bool.true_or, Bool.or_false, Bool.false_or, reduceCtorEq, decide_true, decide_false, walk]) ⟨_, _, _, rfl⟩ ?_ ?_
  · rintro j x ρ ex ⟨c7, c12, c13, rfl⟩
    rw [lls, List.getElem?_map] at ex
    cases ey : all[j]? with
    | none => rw [ey] at ex; cases ex
    | some one =>
      rw [ey] at ex
      obtain rfl : D.lst (nts one) = x := by simpa using ex
      have ho := hall one (List.mem_of_getElem? ey)
      have hlen : (nts one).length = one.length := List.length_map _
      by_cases hlt : one.length < u.length
      · obtain ⟨d7, e4⟩ := seg_rest sc ds i cs one hl b4 (some (.lst (nts (u.map (·.1))))) (some (.str (mk (cut (u.map (·.1)) 0 cs)))) c7 (some (.int e)) (some (.int m)) (some (.lst (nts ((pl 0 false cs).map (·.1))))) (some (.lst (lls all))) c13
        have hr1 := cut_len one cs 0
        have f3 := ev_fits 2 (cut one 0 cs) (by omega)
        rw [fits_rest ho (by rw [hT, List.length_map]; exact hlt)] at f3
        refine ⟨_, _, rfl, ?_, d7, some (.lst (nts one)), some (.str (mk (cut one 0 cs))), rfl⟩
        show evB (F 4) fuel _ (en sc ds i (some (.str (mk cs))) b4 (some (.lst (nts (u.map (·.1))))) (some (.str (mk (cut (u.map (·.1)) 0 cs)))) c7 (some (.int e)) (some (.int m)) (some (.lst (nts ((pl 0 false cs).map (·.1))))) (some (.lst (lls all))) (some (.lst (nts one))) c13) = _
        refine (evB_nx (ρ1 := en sc ds i (some (.str (mk cs))) b4 (some (.lst (nts (u.map (·.1))))) (some (.str (mk (cut (u.map (·.1)) 0 cs)))) d7 (some (.int e)) (some (.int m)) (some (.lst (nts ((pl 0 false cs).map (·.1))))) (some (.lst (lls all))) (some (.lst (nts one))) (some (.str (mk (cut one 0 cs))))) ?_).trans evB_nil
        have hi' : ((one.length : Int) < (u.length : Int)) := by omega
        have hcond : evE (F 4) (.cmp .lt (.c1 .len (.var 12)) (.c1 .len (.var 5))) (en sc ds i (some (.str (mk cs))) b4 (some (.lst (nts (u.map (·.1))))) (some (.str (mk (cut (u.map (·.1)) 0 cs)))) c7 (some (.int e)) (some (.int m)) (some (.lst (nts ((pl 0 false cs).map (·.1))))) (some (.lst (lls all))) (some (.lst (nts one))) c13) = .ok (.bl true) := by
          simp -implicitDefEqProofs only [evB, evS, evE, evL, evAnd, evOr, evIfs, evO, evI, part, R_ok_bind, R_ok_map, seq_nx, seq_rt, seq_bk, res_rt, res_nx, lk_0, lk_s, asL_lst, tru_bl, tru_int, cd_non, cd_bl, cd_int, cd_str, ceq_str, cne_str, ceq_int, cne_int, ceq_bl, cne_bl, clt_int, cle_int, cgt_int, cge_int, badd_int, bsub_int, len_lst, len_rol, abs_int, int_int, int_bl, cin_map, cnin_map, List.set_cons_zero, List.set_cons_succ, if_true, if_false, ite_true, ite_false, Bool.false_eq_true, Bool.not_true, Bool.not_false, Bool.and_true, Bool.true_and, Bool.and_false, Bool.false_and, Bool.or_true, Bool.true_or, Bool.or_false, Bool.false_or, reduceCtorEq, decide_true, decide_false, hlen, ht, hi']
        rw [evS, hcond, R_ok_bind, tru_bl, R_ok_bind, if_pos rfl, e4]
        rw [evB_skip (by simp -implicitDefEqProofs only [evB, evS, evE, evL, evAnd, evOr, evIfs, evO, evI, part, R_ok_bind, R_ok_map, seq_nx, seq_rt, seq_bk, res_rt, res_nx, lk_0, lk_s, asL_lst, tru_bl, tru_int, cd_non, cd_bl, cd_int, cd_str, ceq_str, cne_str, ceq_int, cne_int, ceq_bl, cne_bl, clt_int, cle_int, cgt_int, cge_int, badd_int, bsub_int, len_lst, len_rol, abs_int, int_int, int_bl, cin_map, cnin_map, List.set_cons_zero, List.set_cons_succ, if_true, if_false, ite_true, ite_false, Bool.false_eq_true, Bool.not_true, Bool.not_false, Bool.and_true, Bool.true_and, Bool.and_false, Bool.false_and, Bool.or_true, Bool.true_or, Bool.or_false, Bool.false_or, reduceCtorEq, decide_true, decide_false, f3])]
        exact evB_nil
      · refine ⟨_, _, rfl, ?_, c7, some (.lst (nts one)), c13, rfl⟩
        have hi' : ¬ ((one.length : Int) < (u.length : Int)) := by omega
        show evB (F 4) fuel _ (en sc ds i (some (.str (mk cs))) b4 (some (.lst (nts (u.map (·.1))))) (some (.str (mk (cut (u.map (·.1)) 0 cs)))) c7 (some (.int e)) (some (.int m)) (some (.lst (nts ((pl 0 false cs).map (·.1))))) (some (.lst (lls all))) (some (.lst (nts one))) c13) = _
        rw [evB_skip (by simp -implicitDefEqProofs only [evB, evS, evE, evL, evAnd, evOr, evIfs, evO, evI, part, R_ok_bind, R_ok_map, seq_nx, seq_rt, seq_bk, res_rt, res_nx, lk_0, lk_s, asL_lst, tru_bl, tru_int, cd_non, cd_bl, cd_int, cd_str, ceq_str, cne_str, ceq_int, cne_int, ceq_bl, cne_bl, clt_int, cle_int, cgt_int, cge_int, badd_int, bsub_int, len_lst, len_rol, abs_int, int_int, int_bl, cin_map, cnin_map, List.set_cons_zero, List.set_cons_succ, if_true, if_false, ite_true, ite_false, Bool.false_eq_true, Bool.not_true, Bool.not_false, Bool.and_true, Bool.true_and, Bool.and_false, Bool.false_and, Bool.or_true, Bool.true_or, Bool.or_false, Bool.false_or, reduceCtorEq, decide_true, decide_false, hlen, ht, hi'])]
        exact evB_nil
  · rintro ρ' ⟨c7, c12, c13, rfl⟩
    have f4 := ev_fits 2 cs (by omega)
    rw [fits_told, hT] at f4
    have ce : cmp .eq (.lst (nts (u.map (·.1)))) (.lst []) = .ok (.bl (decide ((u.map (·.1)).length = 0))) := by
      have := ceq_ints ((u.map (·.1)).map fun (n : Nat) => (n : Int)) []
      rw [← nts_int] at this
      rw [show (D.lst (([] : List Int).map D.int)) = D.lst [] from rfl] at this
      rw [this]
      rw [none_told]
    generalize decide ((u.map (·.1)).length = 0) = bb at f4 ce
    refine ⟨_, _, _, _, _, _, _, _, _, _, _, (evB_skip ?_).trans evB_nil⟩
    have z : ([] : List D).length ≤ LIM := lim_le (by simp)
    simp -implicitDefEqProofs only [evB, evS, evE, evL, evAnd, evOr, evIfs, evO, evI, part, R_ok_bind, R_ok_map, seq_nx, seq_rt, seq_bk, res_rt, res_nx, lk_0, lk_s, asL_lst, tru_bl, tru_int, cd_non, cd_bl, cd_int, cd_str, ceq_str, cne_str, ceq_int, cne_int, ceq_bl, cne_bl, clt_int, cle_int, cgt_int, cge_int, badd_int, bsub_int, len_lst, len_rol, abs_int, int_int, int_bl, cin_map, cnin_map, List.set_cons_zero, List.set_cons_succ, if_true, if_false, ite_true, ite_false, Bool.false_eq_true, Bool.not_true, Bool.not_false, Bool.and_true, Bool.true_and, Bool.and_false, Bool.false_and, Bool.or_true, Bool.true_or, Bool.or_false, Bool.false_or, reduceCtorEq, decide_true, decide_false, f4, z, ce]
    cases bb <;> rfl
theorem law_ok (ns : List Int) (h : ns.length ≤ 63) : callF tbl fuel 5 9 [.rol (ns.map .int)] = .ok (.bl true) := by
  refine callF_rt (d := d_law) rfl rfl ?_
  show evB (F 4) fuel b_law [some (.rol (ns.map .int)), none, none, none, none, none, none, none, none, none, none, none, none, none] = _
  unfold b_law
  obtain ⟨ds, hs, hd, ed⟩ := ev_draws 3 ns h
  rw [evB_asg (d := .lst (nts ds)) (by simp -implicitDefEqProofs only [evB, evS, evE, evL, evAnd, evOr, evIfs, evO, evI, part, R_ok_bind, R_ok_map, seq_nx, seq_rt, seq_bk, res_rt, res_nx, lk_0, lk_s, asL_lst, tru_bl, tru_int, cd_non, cd_bl, cd_int, cd_str, ceq_str, cne_str, ceq_int, cne_int, ceq_bl, cne_bl, clt_int, cle_int, cgt_int, cge_int, badd_int, bsub_int, len_lst, len_rol, abs_int, int_int, int_bl, cin_map, cnin_map, List.set_cons_zero, List.set_cons_succ, if_true, if_false, ite_true, ite_false, Bool.false_eq_true, Bool.not_true, Bool.not_false, Bool.and_true, Bool.true_and, Bool.and_false, Bool.false_and, Bool.or_true, Bool.true_or, Bool.or_false, Bool.false_or, reduceCtorEq, decide_true, decide_false, ed])]
  show evB (F 4) fuel _ [some (.rol (ns.map .int)), some (.lst (nts ds)), none, none, none, none, none, none, none, none, none, none, none, none] = _
  refine evB_for (J := fun _ ρ => ∃ b2 b3 b4 b5 b6 b7 b8 b9 b10 b11 b12 b13, ρ = [some (.rol (ns.map .int)), some (.lst (nts ds)), b2, b3, b4, b5, b6, b7, b8, b9, b10, b11, b12, b13]) (xs := rngL 0 ((6 : Nat) : Int)) ?_ ⟨_, _, _, _, _, _, _, _, _, _, _, _, rfl⟩ ?_ ?_
  · simp -implicitDefEqProofs only [evB, evS, evE, evL, evAnd, evOr, evIfs, evO, evI, part, R_ok_bind, R_ok_map, seq_nx, seq_rt, seq_bk, res_rt, res_nx, lk_0, lk_s, asL_lst, tru_bl, tru_int, cd_non, cd_bl, cd_int, cd_str, ceq_str, cne_str, ceq_int, cne_int, ceq_bl, cne_bl, clt_int, cle_int, cgt_int, cge_int, badd_int, bsub_int, len_lst, len_rol, abs_int, int_int, int_bl, cin_map, cnin_map, List.set_cons_zero, List.set_cons_succ, if_true, if_false, ite_true, ite_false, Bool.false_eq_true, Bool.not_true, Bool.not_false, Bool.and_true, Bool.true_and, Bool.and_false, Bool.false_and, Bool.or_true, Bool.true_or, Bool.or_false, Bool.false_or, reduceCtorEq, decide_true, decide_false]
    exact rngD_nat 6 (by omega)
  · rintro i x ρ ex ⟨b2, b3, b4, b5, b6, b7, b8, b9, b10, b11, b12, b13, rfl⟩
    obtain ⟨hi, rfl⟩ := rngL_get ex
    obtain ⟨c3, c4, c5, c6, c7, c8, c9, c10, c11, c12, c13, e⟩ := ev_turnbody (.rol (ns.map .int)) ds hs i b3 b4 b5 b6 b7 b8 b9 b10 b11 b12 b13
    exact ⟨_, _, rfl, e, some (.int i), c3, c4, c5, c6, c7, c8, c9, c10, c11, c12, c13, rfl⟩
  · rintro ρ' ⟨b2, b3, b4, b5, b6, b7, b8, b9, b10, b11, b12, b13, rfl⟩
    refine evB_ret ?_
    simp -implicitDefEqProofs only [evB, evS, evE, evL, evAnd, evOr, evIfs, evO, evI, part, R_ok_bind, R_ok_map, seq_nx, seq_rt, seq_bk, res_rt, res_nx, lk_0, lk_s, asL_lst, tru_bl, tru_int, cd_non, cd_bl, cd_int, cd_str, ceq_str, cne_str, ceq_int, cne_int, ceq_bl, cne_bl, clt_int, cle_int, cgt_int, cge_int, badd_int, bsub_int, len_lst, len_rol, abs_int, int_int, int_bl, cin_map, cnin_map, List.set_cons_zero, List.set_cons_succ, if_true, if_false, ite_true, ite_false, Bool.false_eq_true, Bool.not_true, Bool.not_false, Bool.and_true, Bool.true_and, Bool.and_false, Bool.false_and, Bool.or_true, Bool.true_or, Bool.or_false, Bool.false_or, reduceCtorEq, decide_true, decide_false]
def cls : Cl := fun _ => .none
end K04
end TW

namespace TW
namespace K04
open PySem PySem.Spec PyProof.Rows L2
theorem bn_bracket_places : BindsAll d_bracket_places.nm d_bracket_places.st d_bracket_places.ps := fun _ _ _ _ _ _ us hl => match us, hl with | [_], _ => rfl
theorem bn_loose : BindsAll d_loose.nm d_loose.st d_loose.ps := fun _ _ _ _ _ _ us hl => match us, hl with | [_], _ => rfl
theorem bn_struck : BindsAll d_struck.nm d_struck.st d_struck.ps := fun _ _ _ _ _ _ us hl => match us, hl with | [_], _ => rfl
theorem bn_closed : BindsAll d_closed.nm d_closed.st d_closed.ps := fun _ _ _ _ _ _ us hl => match us, hl with | [_], _ => rfl
theorem bn_law_draws : BindsAll d_law_draws.nm d_law_draws.st d_law_draws.ps := fun _ _ _ _ _ _ us hl => match us, hl with | [_], _ => rfl
theorem bn_law_mix : BindsAll d_law_mix.nm d_law_mix.st d_law_mix.ps := fun _ _ _ _ _ _ us hl => match us, hl with | [_, _, _], _ => rfl
theorem bn_law_places : BindsAll d_law_places.nm d_law_places.st d_law_places.ps := fun _ _ _ _ _ _ us hl => match us, hl with | [_], _ => rfl
theorem bn_law_fits : BindsAll d_law_fits.nm d_law_fits.st d_law_fits.ps := fun _ _ _ _ _ _ us hl => match us, hl with | [_], _ => rfl
theorem bn_law_loose : BindsAll d_law_loose.nm d_law_loose.st d_law_loose.ps := fun _ _ _ _ _ _ us hl => match us, hl with | [_], _ => rfl
theorem bn_law : BindsAll d_law.nm d_law.st d_law.ps := fun _ _ _ _ _ _ us hl => match us, hl with | [_], _ => rfl
theorem facts {K : PySem.W.Frag} {mg : Str → Option Value} (h_bracket_places : DefF K mg d_bracket_places) (h_loose : DefF K mg d_loose) (h_struck : DefF K mg d_struck) (h_closed : DefF K mg d_closed) (h_law_draws : DefF K mg d_law_draws) (h_law_mix : DefF K mg d_law_mix) (h_law_places : DefF K mg d_law_places) (h_law_fits : DefF K mg d_law_fits) (h_law_loose : DefF K mg d_law_loose) (h_law : DefF K mg d_law) (g0 : ∃ u, mg "CLOSE" = some u ∧ RelV (C.v (.str "}")) u) (g1 : ∃ u, mg "OPEN" = some u ∧ RelV (C.v (.str "{")) u) (z0 : mg "len" = none) (z1 : mg "abs" = none) (z2 : mg "int" = none) (z3 : mg "repr" = none) (z4 : mg "all" = none) (z5 : mg "any" = none) (z6 : mg "sum" = none) (z7 : mg "list" = none) (z8 : mg "tuple" = none) (z9 : mg "min" = none) (z10 : mg "max" = none) (z11 : mg "range" = none) (z12 : mg "enumerate" = none) (z13 : mg "zip" = none) : Facts K mg tbl gls where
  fns := fun f d e => by
    match f, e with
    | 0, e => cases e; exact h_bracket_places
    | 1, e => cases e; exact h_loose
    | 2, e => cases e; exact h_struck
    | 3, e => cases e; exact h_closed
    | 4, e => cases e; exact h_law_draws
    | 5, e => cases e; exact h_law_mix
    | 6, e => cases e; exact h_law_places
    | 7, e => cases e; exact h_law_fits
    | 8, e => cases e; exact h_law_loose
    | 9, e => cases e; exact h_law
    | _ + 10, e => simp [tbl] at e
  blt := fun n hn => by
    simp only [bltNames, List.mem_cons, List.not_mem_nil, or_false] at hn
    rcases hn with rfl | rfl | rfl | rfl | rfl | rfl | rfl | rfl | rfl | rfl | rfl | rfl | rfl | rfl
    · exact z0
    · exact z1
    · exact z2
    · exact z3
    · exact z4
    · exact z5
    · exact z6
    · exact z7
    · exact z8
    · exact z9
    · exact z10
    · exact z11
    · exact z12
    · exact z13
  glb := fun x v hx => by
    simp only [gls, List.mem_cons, Prod.mk.injEq, List.not_mem_nil, or_false] at hx
    rcases hx with ⟨rfl, rfl⟩ | ⟨rfl, rfl⟩
    · exact g0
    · exact g1
theorem all_mk {P : Program} {K : PySem.W.Frag} {h : Heap} {mg : Str → Option Value} {fa : Addr} {f0 : Addr} {od0 an0 : Option Addr} {sl0 : Array (Option Value)} {oc0 kV0 dc0 pm0 cd0 ct0 : Value} {f1 : Addr} {od1 an1 : Option Addr} {sl1 : Array (Option Value)} {oc1 kV1 dc1 pm1 cd1 ct1 : Value} {f2 : Addr} {od2 an2 : Option Addr} {sl2 : Array (Option Value)} {oc2 kV2 dc2 pm2 cd2 ct2 : Value} {f3 : Addr} {od3 an3 : Option Addr} {sl3 : Array (Option Value)} {oc3 kV3 dc3 pm3 cd3 ct3 : Value} {f4 : Addr} {od4 an4 : Option Addr} {sl4 : Array (Option Value)} {oc4 kV4 dc4 pm4 cd4 ct4 : Value} {f5 : Addr} {od5 an5 : Option Addr} {sl5 : Array (Option Value)} {oc5 kV5 dc5 pm5 cd5 ct5 : Value} {f6 : Addr} {od6 an6 : Option Addr} {sl6 : Array (Option Value)} {oc6 kV6 dc6 pm6 cd6 ct6 : Value} {f7 : Addr} {od7 an7 : Option Addr} {sl7 : Array (Option Value)} {oc7 kV7 dc7 pm7 cd7 ct7 : Value} {f8 : Addr} {od8 an8 : Option Addr} {sl8 : Array (Option Value)} {oc8 kV8 dc8 pm8 cd8 ct8 : Value} {f9 : Addr} {od9 an9 : Option Addr} {sl9 : Array (Option Value)} {oc9 kV9 dc9 pm9 cd9 ct9 : Value} {t0 : Tok} {t1 : Tok} (X : K.In h) (G : h.Ns mainGlobals mg) (hfa : mg "law" = some (.ref fa)) (a0 : PySem.W.nsIn K mainGlobals d_bracket_places.nm = some (some (.ref f0))) (l0 : K.lookup f0 = some ⟨oc0, od0, .func (PySem.W.fnOf d_bracket_places.nm d_bracket_places.nm (defArgs d_bracket_places.st) (defBody d_bracket_places.st) (defScope d_bracket_places.st) .none kV0 dc0 pm0 an0 cd0 ct0), sl0⟩) (c0 : PySem.W.codeIn K cd0 d_bracket_places.nm = true) (k0 : PySem.W.keepIn K (.ref f0) = true) (a1 : PySem.W.nsIn K mainGlobals d_loose.nm = some (some (.ref f1))) (l1 : K.lookup f1 = some ⟨oc1, od1, .func (PySem.W.fnOf d_loose.nm d_loose.nm (defArgs d_loose.st) (defBody d_loose.st) (defScope d_loose.st) .none kV1 dc1 pm1 an1 cd1 ct1), sl1⟩) (c1 : PySem.W.codeIn K cd1 d_loose.nm = true) (k1 : PySem.W.keepIn K (.ref f1) = true) (a2 : PySem.W.nsIn K mainGlobals d_struck.nm = some (some (.ref f2))) (l2 : K.lookup f2 = some ⟨oc2, od2, .func (PySem.W.fnOf d_struck.nm d_struck.nm (defArgs d_struck.st) (defBody d_struck.st) (defScope d_struck.st) .none kV2 dc2 pm2 an2 cd2 ct2), sl2⟩) (c2 : PySem.W.codeIn K cd2 d_struck.nm = true) (k2 : PySem.W.keepIn K (.ref f2) = true) (a3 : PySem.W.nsIn K mainGlobals d_closed.nm = some (some (.ref f3))) (l3 : K.lookup f3 = some ⟨oc3, od3, .func (PySem.W.fnOf d_closed.nm d_closed.nm (defArgs d_closed.st) (defBody d_closed.st) (defScope d_closed.st) .none kV3 dc3 pm3 an3 cd3 ct3), sl3⟩) (c3 : PySem.W.codeIn K cd3 d_closed.nm = true) (k3 : PySem.W.keepIn K (.ref f3) = true) (a4 : PySem.W.nsIn K mainGlobals d_law_draws.nm = some (some (.ref f4))) (l4 : K.lookup f4 = some ⟨oc4, od4, .func (PySem.W.fnOf d_law_draws.nm d_law_draws.nm (defArgs d_law_draws.st) (defBody d_law_draws.st) (defScope d_law_draws.st) .none kV4 dc4 pm4 an4 cd4 ct4), sl4⟩) (c4 : PySem.W.codeIn K cd4 d_law_draws.nm = true) (k4 : PySem.W.keepIn K (.ref f4) = true) (a5 : PySem.W.nsIn K mainGlobals d_law_mix.nm = some (some (.ref f5))) (l5 : K.lookup f5 = some ⟨oc5, od5, .func (PySem.W.fnOf d_law_mix.nm d_law_mix.nm (defArgs d_law_mix.st) (defBody d_law_mix.st) (defScope d_law_mix.st) .none kV5 dc5 pm5 an5 cd5 ct5), sl5⟩) (c5 : PySem.W.codeIn K cd5 d_law_mix.nm = true) (k5 : PySem.W.keepIn K (.ref f5) = true) (a6 : PySem.W.nsIn K mainGlobals d_law_places.nm = some (some (.ref f6))) (l6 : K.lookup f6 = some ⟨oc6, od6, .func (PySem.W.fnOf d_law_places.nm d_law_places.nm (defArgs d_law_places.st) (defBody d_law_places.st) (defScope d_law_places.st) .none kV6 dc6 pm6 an6 cd6 ct6), sl6⟩) (c6 : PySem.W.codeIn K cd6 d_law_places.nm = true) (k6 : PySem.W.keepIn K (.ref f6) = true) (a7 : PySem.W.nsIn K mainGlobals d_law_fits.nm = some (some (.ref f7))) (l7 : K.lookup f7 = some ⟨oc7, od7, .func (PySem.W.fnOf d_law_fits.nm d_law_fits.nm (defArgs d_law_fits.st) (defBody d_law_fits.st) (defScope d_law_fits.st) .none kV7 dc7 pm7 an7 cd7 ct7), sl7⟩) (c7 : PySem.W.codeIn K cd7 d_law_fits.nm = true) (k7 : PySem.W.keepIn K (.ref f7) = true) (a8 : PySem.W.nsIn K mainGlobals d_law_loose.nm = some (some (.ref f8))) (l8 : K.lookup f8 = some ⟨oc8, od8, .func (PySem.W.fnOf d_law_loose.nm d_law_loose.nm (defArgs d_law_loose.st) (defBody d_law_loose.st) (defScope d_law_loose.st) .none kV8 dc8 pm8 an8 cd8 ct8), sl8⟩) (c8 : PySem.W.codeIn K cd8 d_law_loose.nm = true) (k8 : PySem.W.keepIn K (.ref f8) = true) (a9 : PySem.W.nsIn K mainGlobals d_law.nm = some (some (.ref f9))) (l9 : K.lookup f9 = some ⟨oc9, od9, .func (PySem.W.fnOf d_law.nm d_law.nm (defArgs d_law.st) (defBody d_law.st) (defScope d_law.st) .none kV9 dc9 pm9 an9 cd9 ct9), sl9⟩) (c9 : PySem.W.codeIn K cd9 d_law.nm = true) (k9 : PySem.W.keepIn K (.ref f9) = true) (e0 : PySem.W.nsIn K mainGlobals "CLOSE" = some (some (.str "}" t0))) (e1 : PySem.W.nsIn K mainGlobals "OPEN" = some (some (.str "{" t1))) (z0 : PySem.W.nsIn K mainGlobals "len" = some none) (z1 : PySem.W.nsIn K mainGlobals "abs" = some none) (z2 : PySem.W.nsIn K mainGlobals "int" = some none) (z3 : PySem.W.nsIn K mainGlobals "repr" = some none) (z4 : PySem.W.nsIn K mainGlobals "all" = some none) (z5 : PySem.W.nsIn K mainGlobals "any" = some none) (z6 : PySem.W.nsIn K mainGlobals "sum" = some none) (z7 : PySem.W.nsIn K mainGlobals "list" = some none) (z8 : PySem.W.nsIn K mainGlobals "tuple" = some none) (z9 : PySem.W.nsIn K mainGlobals "min" = some none) (z10 : PySem.W.nsIn K mainGlobals "max" = some none) (z11 : PySem.W.nsIn K mainGlobals "range" = some none) (z12 : PySem.W.nsIn K mainGlobals "enumerate" = some none) (z13 : PySem.W.nsIn K mainGlobals "zip" = some none) :
    ∃ fd : FuncData, (∀ (s : Shared) (u : Value), BindsTo s fd ⟨[u], []⟩ [("script", u)]) ∧ ∀ (w : World) (base : Heap), FnG P w K mg base 5 fa fd ["script"] (spF K (tabT tbl) (callF tbl fuel 5) cls 9) := by
  have h_bracket_places : DefF K mg d_bracket_places := defF_mk X G bn_bracket_places a0 l0 c0 k0
  have h_loose : DefF K mg d_loose := defF_mk X G bn_loose a1 l1 c1 k1
  have h_struck : DefF K mg d_struck := defF_mk X G bn_struck a2 l2 c2 k2
  have h_closed : DefF K mg d_closed := defF_mk X G bn_closed a3 l3 c3 k3
  have h_law_draws : DefF K mg d_law_draws := defF_mk X G bn_law_draws a4 l4 c4 k4
  have h_law_mix : DefF K mg d_law_mix := defF_mk X G bn_law_mix a5 l5 c5 k5
  have h_law_places : DefF K mg d_law_places := defF_mk X G bn_law_places a6 l6 c6 k6
  have h_law_fits : DefF K mg d_law_fits := defF_mk X G bn_law_fits a7 l7 c7 k7
  have h_law_loose : DefF K mg d_law_loose := defF_mk X G bn_law_loose a8 l8 c8 k8
  have h_law : DefF K mg d_law := defF_mk X G bn_law a9 l9 c9 k9
  exact lawF (facts h_bracket_places h_loose h_struck h_closed h_law_draws h_law_mix h_law_places h_law_fits h_law_loose h_law ⟨_, PySem.W.mg_of X G e0, ⟨_, rfl⟩⟩ ⟨_, PySem.W.mg_of X G e1, ⟨_, rfl⟩⟩ (PySem.W.mg_none_of X G z0) (PySem.W.mg_none_of X G z1) (PySem.W.mg_none_of X G z2) (PySem.W.mg_none_of X G z3) (PySem.W.mg_none_of X G z4) (PySem.W.mg_none_of X G z5) (PySem.W.mg_none_of X G z6) (PySem.W.mg_none_of X G z7) (PySem.W.mg_none_of X G z8) (PySem.W.mg_none_of X G z9) (PySem.W.mg_none_of X G z10) (PySem.W.mg_none_of X G z11) (PySem.W.mg_none_of X G z12) (PySem.W.mg_none_of X G z13)) chk rfl rfl bn_law hfa h_law
end K04
end TW
open PySem PySem.W PyProof.Rows
set_option maxHeartbeats 0 in
theorem PySem.Challenge.cw_printstack_k04_whole_brackets_without_a_holds : PySem.Challenge.rw_printstack_k04_whole_brackets_without_a.Holds := by
  w_on; o_law; k_head; (case hw => w_witness2)
  k_fill
  refine TW.walkT (l := PySem.Challenge.rw_printstack_k04_whole_brackets_without_a) (n := 63) (k := 5) (x := "script") (F := TW.callF TW.K04.tbl TW.K04.fuel 5) (T := TW.tabT TW.K04.tbl) (cl := TW.K04.cls) (f0 := 9) rfl (by decide) rfl ⟨rfl, by decide, by decide⟩ (fun w h Y => PySem.W.kIn_of Y) ?F TW.K04.law_ok
  case F =>
    intro w mg fa h KX G hmg
    refine' TW.at_w w (TW.K04.all_mk KX G hmg ?a0 ?l0 ?c0 ?k0 ?a1 ?l1 ?c1 ?k1 ?a2 ?l2 ?c2 ?k2 ?a3 ?l3 ?c3 ?k3 ?a4 ?l4 ?c4 ?k4 ?a5 ?l5 ?c5 ?k5 ?a6 ?l6 ?c6 ?k6 ?a7 ?l7 ?c7 ?k7 ?a8 ?l8 ?c8 ?k8 ?a9 ?l9 ?c9 ?k9 ?e0 ?e1 ?z0 ?z1 ?z2 ?z3 ?z4 ?z5 ?z6 ?z7 ?z8 ?z9 ?z10 ?z11 ?z12 ?z13)
    (case a0 => k_is)
    (case l0 => k_is)
    (case c0 => k_is)
    (case k0 => k_is)
    (case a1 => k_is)
    (case l1 => k_is)
    (case c1 => k_is)
    (case k1 => k_is)
    (case a2 => k_is)
    (case l2 => k_is)
    (case c2 => k_is)
    (case k2 => k_is)
    (case a3 => k_is)
    (case l3 => k_is)
    (case c3 => k_is)
    (case k3 => k_is)
    (case a4 => k_is)
    (case l4 => k_is)
    (case c4 => k_is)
    (case k4 => k_is)
    (case a5 => k_is)
    (case l5 => k_is)
    (case c5 => k_is)
    (case k5 => k_is)
    (case a6 => k_is)
    (case l6 => k_is)
    (case c6 => k_is)
    (case k6 => k_is)
    (case a7 => k_is)
    (case l7 => k_is)
    (case c7 => k_is)
    (case k7 => k_is)
    (case a8 => k_is)
    (case l8 => k_is)
    (case c8 => k_is)
    (case k8 => k_is)
    (case a9 => k_is)
    (case l9 => k_is)
    (case c9 => k_is)
    (case k9 => k_is)
    (case e0 => k_is)
    (case e1 => k_is)
    (case z0 => k_is)
    (case z1 => k_is)
    (case z2 => k_is)
    (case z3 => k_is)
    (case z4 => k_is)
    (case z5 => k_is)
    (case z6 => k_is)
    (case z7 => k_is)
    (case z8 => k_is)
    (case z9 => k_is)
    (case z10 => k_is)
    (case z11 => k_is)
    (case z12 => k_is)
    (case z13 => k_is)

