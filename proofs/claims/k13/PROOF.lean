import PyProof.Rows.All
import Wide.All
import OpenK.AllK
import Wide.FinOn
import KE.KDictPairs
import KE.KEqDict
import PyProof.DictUpdate
import HandS.ForMost
import HandS.Codes
import HandS.DictComp
import HandS.IsInst
import HandS.SortInts
import HandS.TupMul
import HandS.Deep
import HandS.SetFor
import PyProof.Rows.EqNone
import PySem.Challenge.RW_steadhold_k13_whole_nobody_reads_another
import KE.KStateDown
import HandS.Base
import HandS.Call
import HandS.Ends
import HandS.More
import HandS.Words
import HandS.Defaults
import HandS.Head0
import HandS.Head1
import HandS.Head2
import HandS.HeadEnd
import HandS.HeadHook1
import HandS.HeadHook2
import HandS.HeadHook3
import HandS.HeadHook4
import HandS.Walk
set_option linter.all false
set_option maxHeartbeats 4000000
namespace SH
/-! ### words, kinds, what a block owns -/
abbrev Wd := List Int
def zer : Wd := [0, 0, 0, 0, 0, 0, 0, 0]
def wAt (w : Wd) (i : Nat) : Int := w.getD i 0
def GK (k : Int) : Prop := k = 0 ∨ k = 2 ∨ k = 3
/-- the words of a clause, one behind another: those that are not 0 are found, none if one is ill -/
def pick (n : Int) : List (Int × Int) → List (Int × Int) → Option (List (Int × Int))
  | [], acc => some acc
  | (x, k) :: r, acc => if x = 0 then pick n r acc else if 4 ≤ x ∧ x < n ∧ ¬ x ∈ acc.map (·.1) then pick n r (acc ++ [(x, k)]) else none
def ents2 (w : Wd) : List (Int × Int) := [(wAt w 0, 2), (wAt w 1, 2), (wAt w 2, 0), (wAt w 3, 0)]
def ents3 (w : Wd) : List (Int × Int) := [(wAt w 0, 0), (wAt w 1, 0), (wAt w 2, 0), (wAt w 3, 0)]
def own (n : Int) (gd : Int → Bool) (k : Int) (w : Wd) : Option (List (Int × Int)) :=
  if k = 0 then some [] else
  if k = 1 then (if wAt w 0 = 0 then some [] else if (4 ≤ wAt w 0 ∧ wAt w 0 < n) ∧ (0 ≤ wAt w 1 ∧ wAt w 1 < 4) ∧ ¬ wAt w 1 = 1 then some [(wAt w 0, wAt w 1)] else none) else
  if k = 2 then pick n (ents2 w) [] else pick n (if gd (wAt w 7) = true then ents3 w else []) []
def own' (n : Int) (gd : Int → Bool) (k : Option Int) (w : Wd) : Option (List (Int × Int)) := match k with
  | none => some []
  | some k => own n gd k w
/-- what is asked of a found list -/
def Fnd (n : Int) (cs : List (Int × Int)) : Prop := (cs.map (·.1)).Nodup ∧ ∀ p ∈ cs, 4 ≤ p.1 ∧ p.1 < n ∧ GK p.2
theorem nodup_snoc {α : Type} : ∀ {l : List α} {a : α}, l.Nodup → ¬ a ∈ l → (l ++ [a]).Nodup
  | [], a, _, _ => by simp
  | b :: r, a, h, hk => by
    obtain ⟨h1, h2⟩ := List.nodup_cons.mp h
    show (b :: (r ++ [a])).Nodup
    refine List.nodup_cons.mpr ⟨fun m => ?_, nodup_snoc h2 fun m => hk (List.mem_cons.mpr (Or.inr m))⟩
    rcases List.mem_append.mp m with q | q
    · exact h1 q
    · exact hk (List.mem_cons.mpr (Or.inl (List.mem_singleton.mp q).symm))
theorem Fnd.nil {n : Int} : Fnd n [] := ⟨List.nodup_nil, fun p hp => by cases hp⟩
theorem pick_fnd {n : Int} : ∀ {es acc cs : List (Int × Int)}, (∀ p ∈ es, GK p.2) → Fnd n acc → pick n es acc = some cs → Fnd n cs
  | [], acc, cs, _, ha, h => by
    have e : acc = cs := Option.some.inj h
    rw [← e]; exact ha
  | (x, k) :: r, acc, cs, hk, ha, h => by
    unfold pick at h
    have hk' : ∀ p ∈ r, GK p.2 := fun p hp => hk p (List.mem_cons_of_mem _ hp)
    by_cases h0 : x = 0
    · rw [if_pos h0] at h
      exact pick_fnd hk' ha h
    · rw [if_neg h0] at h
      by_cases h1 : 4 ≤ x ∧ x < n ∧ ¬ x ∈ acc.map (·.1)
      · rw [if_pos h1] at h
        refine pick_fnd hk' ⟨?_, fun p hp => ?_⟩ h
        · rw [List.map_append]
          exact nodup_snoc ha.1 h1.2.2
        · rcases List.mem_append.mp hp with q | q
          · exact ha.2 p q
          · rw [List.mem_singleton.mp q]
            exact ⟨h1.1, h1.2.1, hk (x, k) List.mem_cons_self⟩
      · rw [if_neg h1] at h
        cases h
theorem own_fnd {n : Int} {gd : Int → Bool} {k : Int} {w : Wd} {cs : List (Int × Int)} (h : own n gd k w = some cs) : Fnd n cs := by
  unfold own at h
  by_cases h0 : k = 0
  · rw [if_pos h0] at h
    rw [← Option.some.inj h]; exact Fnd.nil
  · rw [if_neg h0] at h
    by_cases h1 : k = 1
    · rw [if_pos h1] at h
      by_cases h2 : wAt w 0 = 0
      · rw [if_pos h2] at h
        rw [← Option.some.inj h]; exact Fnd.nil
      · rw [if_neg h2] at h
        split at h
        · rename_i h3
          rw [← Option.some.inj h]
          refine ⟨by simp, fun p hp => ?_⟩
          rw [List.mem_singleton.mp hp]
          refine ⟨h3.1.1, h3.1.2, ?_⟩
          show wAt w 1 = 0 ∨ wAt w 1 = 2 ∨ wAt w 1 = 3
          omega
        · cases h
    · rw [if_neg h1] at h
      by_cases h2 : k = 2
      · rw [if_pos h2] at h
        refine pick_fnd (fun p hp => ?_) Fnd.nil h
        simp only [ents2, List.mem_cons, List.not_mem_nil, or_false] at hp
        rcases hp with rfl | rfl | rfl | rfl
        · exact .inr (.inl rfl)
        · exact .inr (.inl rfl)
        · exact .inl rfl
        · exact .inl rfl
      · rw [if_neg h2] at h
        refine pick_fnd (fun p hp => ?_) Fnd.nil h
        split at hp
        · simp only [ents3, List.mem_cons, List.not_mem_nil, or_false] at hp
          rcases hp with rfl | rfl | rfl | rfl <;> exact .inl rfl
        · cases hp
theorem own'_fnd {n : Int} {gd : Int → Bool} {k : Option Int} {w : Wd} {cs : List (Int × Int)} (h : own' n gd k w = some cs) : Fnd n cs := by
  cases k with
  | none => rw [← Option.some.inj h]; exact Fnd.nil
  | some k => exact own_fnd h
theorem own_zer {n : Int} {gd : Int → Bool} (hg : gd 0 = false) {k : Int} (hk : GK k ∨ k = 1) : own n gd k zer = some [] := by
  rcases hk with (rfl | rfl | rfl) | rfl
  · rfl
  · rfl
  · show pick n (if gd 0 = true then ents3 zer else []) [] = some []
    rw [hg]; rfl
  · rfl

/-! ### forests -/
/-- from blocks to (owner or none, kind or none) -/
abbrev Mp := Int → Option (Option Int × Option Int)
abbrev Rt := Int → Option (Option Int)
def e0 : Mp := fun _ => none
/-- the words of x fit the map at x -/
def Loc (n : Int) (gd : Int → Bool) (G : Mp) (x : Int) (w : Wd) : Prop :=
  ∀ o k, G x = some (o, k) → ∃ cs, own' n gd k w = some cs ∧ ∀ c ck, (c, ck) ∈ cs ↔ G c = some (some x, some ck)
structure IsF (n : Int) (gd : Int → Bool) (R : Rt) (W : Int → Wd) (G : Mp) : Prop where
  root : ∀ b k, R b = some k → G b = some (none, k)
  rootOf : ∀ b k, G b = some (none, k) → R b = some k
  kids : ∀ x, Loc n gd G x (W x)
  par : ∀ c p ck, G c = some (some p, ck) → (∃ v, G p = some v) ∧ ∃ k', ck = some k'
  rank : ∃ (r : Int → Nat) (B : Nat), (∀ x, r x ≤ B) ∧ ∀ c p ck, G c = some (some p, ck) → r p < r c
section
variable {n : Int} {gd : Int → Bool} {R : Rt} {W W' : Int → Wd} {G G1 G2 : Mp}
theorem IsF.sub (a : IsF n gd R W G1) (b : IsF n gd R W G2) : ∀ x v, G1 x = some v → G2 x = some v := by
  obtain ⟨r, B, _, hr⟩ := a.rank
  have main : ∀ (m : Nat) x v, r x < m → G1 x = some v → G2 x = some v := by
    intro m
    induction m with
    | zero => intro x v h; omega
    | succ m ih =>
      intro x v h hx
      obtain ⟨o, k⟩ := v
      cases o with
      | none => exact b.root _ _ (a.rootOf _ _ hx)
      | some p =>
        obtain ⟨⟨vp, hp⟩, k', rfl⟩ := a.par _ _ _ hx
        have hp2 := ih p vp (by have := hr _ _ _ hx; omega) hp
        obtain ⟨op, kp⟩ := vp
        obtain ⟨cs, e, hc⟩ := a.kids p op kp hp
        obtain ⟨cs', e', hc'⟩ := b.kids p op kp hp2
        rw [e] at e'
        have ee : cs = cs' := Option.some.inj e'
        exact (hc' x k').mp (ee ▸ (hc x k').mpr hx)
  exact fun x v h => main (r x + 1) x v (Nat.lt_succ_self _) h
theorem IsF.uniq (a : IsF n gd R W G1) (b : IsF n gd R W G2) : G1 = G2 := by
  funext x
  cases h : G1 x with
  | some v => exact (a.sub b x v h).symm
  | none =>
    cases h2 : G2 x with
    | none => rfl
    | some v =>
      have := b.sub a x v h2
      rw [h] at this; cases this
/-- the words matter block by block -/
theorem IsF.loc (a : IsF n gd R W G) (h : ∀ x v, G x = some v → Loc n gd G x (W' x)) : IsF n gd R W' G :=
  ⟨a.root, a.rootOf, fun x o k hx => h x _ hx o k hx, a.par, a.rank⟩
theorem IsF.same (a : IsF n gd R W G) (h : ∀ x v, G x = some v → W' x = W x) : IsF n gd R W' G :=
  a.loc fun x v hx => by rw [h x v hx]; exact a.kids x
theorem IsF.rng (a : IsF n gd R W G) {c : Int} {o k : Option Int} (h : G c = some (o, k)) : (R c = some k ∧ o = none) ∨ (4 ≤ c ∧ c < n ∧ ∃ k', k = some k' ∧ GK k') := by
  cases o with
  | none => exact .inl ⟨a.rootOf _ _ h, rfl⟩
  | some p =>
    obtain ⟨⟨⟨op, kp⟩, hp⟩, k', rfl⟩ := a.par _ _ _ h
    obtain ⟨cs, e, hc⟩ := a.kids p op kp hp
    have q := (own'_fnd e).2 (c, k') ((hc c k').mpr h)
    exact .inr ⟨q.1, q.2.1, k', rfl, q.2.2⟩
end

/-! ### the walk that finds a forest: found, and what is still to do -/
abbrev Td := List (Int × Option Int × Option Int)
def Src (n : Int) (gd : Int → Bool) (R : Rt) (W : Int → Wd) (found : Mp) (b : Int) (o k : Option Int) : Prop :=
  (o = none ∧ R b = some k) ∨ ∃ p op kp cs k', o = some p ∧ found p = some (op, kp) ∧ own' n gd kp (W p) = some cs ∧ (b, k') ∈ cs ∧ k = some k'
structure BI (n : Int) (gd : Int → Bool) (R : Rt) (W : Int → Wd) (found : Mp) (todo : Td) : Prop where
  f1 : ∀ b o k, found b = some (o, k) → Src n gd R W found b o k
  t1 : ∀ b o k, (b, o, k) ∈ todo → Src n gd R W found b o k
  r1 : ∀ b k, R b = some k → found b = some (none, k) ∨ (b, none, k) ∈ todo
  k1 : ∀ p o k, found p = some (o, k) → ∃ cs, own' n gd k (W p) = some cs ∧ ∀ c ck, (c, ck) ∈ cs → found c = some (some p, some ck) ∨ (c, some p, some ck) ∈ todo
  rk : ∃ (r : Int → Nat) (B : Nat), (∀ x, r x ≤ B) ∧ ∀ c p ck, found c = some (some p, ck) → r p < r c
  gd' : ∀ G, IsF n gd R W G → (∀ b v, found b = some v → G b = some v) ∧ (∀ b o k, (b, o, k) ∈ todo → G b = some (o, k) ∧ found b = none) ∧ (todo.map (·.1)).Nodup
def put (G : Mp) (b : Int) (v : Option Int × Option Int) : Mp := fun x => if x = b then some v else G x
theorem put_same {G : Mp} {b : Int} {v : Option Int × Option Int} : put G b v b = some v := if_pos rfl
theorem put_ne {G : Mp} {b x : Int} {v : Option Int × Option Int} (h : x ≠ b) : put G b v x = G x := if_neg h
section
variable {n : Int} {gd : Int → Bool} {R : Rt} {W : Int → Wd} {found G : Mp} {todo : Td}
theorem Src.mono {b b' : Int} {v : Option Int × Option Int} {o k : Option Int} (hn : found b' = none) (h : Src n gd R W found b o k) : Src n gd R W (put found b' v) b o k := by
  rcases h with h | ⟨p, op, kp, cs, k', e1, e2, e3, e4, e5⟩
  · exact .inl h
  · refine .inr ⟨p, op, kp, cs, k', e1, ?_, e3, e4, e5⟩
    rw [put_ne (fun z => by rw [z, hn] at e2; cases e2)]
    exact e2
theorem BI.init {rs : List (Int × Option Int)} (hnd : (rs.map (·.1)).Nodup) (hR : ∀ b k, R b = some k ↔ (b, k) ∈ rs) : BI n gd R W e0 (rs.map fun p => (p.1, none, p.2)) where
  f1 := fun b o k h => by cases h
  t1 := fun b o k h => by
    obtain ⟨p, hp, e⟩ := List.mem_map.mp h
    injection e with e1 e2
    injection e2 with e2 e3
    refine .inl ⟨e2.symm, (hR b k).mpr ?_⟩
    rw [← e1, ← e3]; exact hp
  r1 := fun b k h => .inr (List.mem_map.mpr ⟨(b, k), (hR b k).mp h, rfl⟩)
  k1 := fun p o k h => by cases h
  rk := ⟨fun _ => 0, 0, fun _ => Nat.le_refl _, fun c p ck h => by cases h⟩
  gd' := fun G F => by
    refine ⟨fun b v h => (nomatch (show (none : Option (Option Int × Option Int)) = some v from h)), fun b o k h => ?_, ?_⟩
    · obtain ⟨p, hp, e⟩ := List.mem_map.mp h
      injection e with e1 e2
      injection e2 with e2 e3
      subst e1 e2 e3
      exact ⟨F.root _ _ ((hR _ _).mpr hp), rfl⟩
    · rw [List.map_map]
      exact hnd
theorem BI.step {b : Int} {o k : Option Int} {cs : List (Int × Int)} (h : BI n gd R W found ((b, o, k) :: todo)) (hn : found b = none) (hc : own' n gd k (W b) = some cs) :
    BI n gd R W (put found b (o, k)) (todo ++ cs.map fun p => (p.1, some b, some p.2)) where
  f1 := fun x ox kx hx => by
    by_cases e : x = b
    · subst e
      rw [put_same] at hx
      have e2 := Option.some.inj hx
      injection e2 with e3 e4
      subst e3 e4
      exact (h.t1 _ _ _ List.mem_cons_self).mono hn
    · rw [put_ne e] at hx
      exact (h.f1 _ _ _ hx).mono hn
  t1 := fun x ox kx hx => by
    rcases List.mem_append.mp hx with q | q
    · exact (h.t1 _ _ _ (List.mem_cons_of_mem _ q)).mono hn
    · obtain ⟨p, hp, e⟩ := List.mem_map.mp q
      injection e with e1 e2
      injection e2 with e2 e3
      exact .inr ⟨b, o, k, cs, p.2, e2.symm, put_same, hc, by rw [← e1]; exact hp, e3.symm⟩
  r1 := fun x kx hx => by
    rcases h.r1 x kx hx with q | q
    · refine .inl ?_
      rw [put_ne (fun z => by rw [z, hn] at q; cases q)]
      exact q
    · rcases List.mem_cons.mp q with e | q
      · injection e with e1 e2
        injection e2 with e2 e3
        subst e1 e2 e3
        exact .inl put_same
      · exact .inr (List.mem_append_left _ q)
  k1 := fun p op kp hp => by
    by_cases e : p = b
    · subst e
      rw [put_same] at hp
      have e2 := Option.some.inj hp
      injection e2 with e3 e4
      subst e3 e4
      exact ⟨cs, hc, fun c ck hm => .inr (List.mem_append_right _ (List.mem_map.mpr ⟨(c, ck), hm, rfl⟩))⟩
    · rw [put_ne e] at hp
      obtain ⟨cs', e1, e2⟩ := h.k1 _ _ _ hp
      refine ⟨cs', e1, fun c ck hm => ?_⟩
      rcases e2 c ck hm with q | q
      · refine .inl ?_
        rw [put_ne (fun z => by rw [z, hn] at q; cases q)]
        exact q
      · rcases List.mem_cons.mp q with e | q
        · injection e with e3 e4
          injection e4 with e5 e6
          subst e3
          refine .inl ?_
          rw [put_same, ← e5, ← e6]
        · exact .inr (List.mem_append_left _ q)
  rk := by
    obtain ⟨r, B, hB, hr⟩ := h.rk
    refine ⟨fun x => if x = b then B + 1 else r x, B + 1, fun x => ?_, fun c p ck hx => ?_⟩
    · by_cases e : x = b
      · simp [e]
      · simp only [if_neg e]
        exact Nat.le_succ_of_le (hB x)
    · have par : ∀ y q z, found y = some (some q, z) → q ≠ b := fun y q z hy e => by
        rcases h.f1 _ _ _ hy with ⟨z, _⟩ | ⟨p', op, kp, cs', k', e1, e2, _⟩
        · cases z
        · have ep : q = p' := Option.some.inj e1
          rw [← ep, e, hn] at e2; cases e2
      by_cases e : c = b
      · subst e
        rw [put_same] at hx
        have e2 := Option.some.inj hx
        injection e2 with e3 e4
        subst e3
        have hp : p ≠ c := fun z => by
          rcases h.t1 _ _ _ List.mem_cons_self with ⟨z1, _⟩ | ⟨p', op, kp, cs', k', e1, e2, _⟩
          · cases z1
          · have ep : p = p' := Option.some.inj e1
            rw [← ep, z, hn] at e2; cases e2
        simp only [if_neg hp, if_pos]
        exact Nat.lt_succ_of_le (hB p)
      · rw [put_ne e] at hx
        simp only [if_neg e, if_neg (par _ _ _ hx)]
        exact hr _ _ _ hx
  gd' := fun G F => by
    obtain ⟨g1, g2, g3⟩ := h.gd' G F
    obtain ⟨gb, _⟩ := g2 b o k List.mem_cons_self
    rw [List.map_cons] at g3
    obtain ⟨g4, g5⟩ := List.nodup_cons.mp g3
    -- a child of b is new
    have new : ∀ c ck, (c, ck) ∈ cs → G c = some (some b, some ck) ∧ found c = none ∧ ¬ c ∈ todo.map (·.1) ∧ c ≠ b := fun c ck hm => by
      obtain ⟨cs', e1, e2⟩ := F.kids b o k gb
      rw [hc] at e1
      have ee : cs = cs' := Option.some.inj e1
      have gc := (e2 c ck).mp (ee ▸ hm)
      have nf : found c = none := by
        cases q : found c with
        | none => rfl
        | some v =>
          have gq := g1 c v q
          rw [gc] at gq
          rw [← Option.some.inj gq] at q
          rcases h.f1 _ _ _ q with ⟨z, _⟩ | ⟨p', op, kp, cs', k', e1, e2, _⟩
          · cases z
          · have ep : b = p' := Option.some.inj e1
            rw [← ep, hn] at e2; cases e2
      refine ⟨gc, nf, fun hm2 => ?_, fun z => ?_⟩
      · obtain ⟨⟨c', oc, kc⟩, hq, e⟩ := List.mem_map.mp hm2
        have e' : c' = c := e
        subst e'
        obtain ⟨gq, _⟩ := g2 c' oc kc (List.mem_cons_of_mem _ hq)
        rw [gc] at gq
        have e5 := Option.some.inj gq
        injection e5 with e6 e7
        rcases h.t1 _ _ _ (List.mem_cons_of_mem _ hq) with ⟨z, _⟩ | ⟨p', op, kp, cs', k', e1, e2, _⟩
        · rw [z] at e6; cases e6
        · rw [← e6] at e1
          have ep : b = p' := Option.some.inj e1
          rw [← ep, hn] at e2; cases e2
      · subst z
        obtain ⟨r, B, _, hr⟩ := F.rank
        exact absurd (hr _ _ _ gc) (Nat.lt_irrefl _)
    refine ⟨fun x v hx => ?_, fun x ox kx hx => ?_, ?_⟩
    · by_cases e : x = b
      · subst e
        rw [put_same] at hx
        rw [← Option.some.inj hx]; exact gb
      · rw [put_ne e] at hx
        exact g1 x v hx
    · rcases List.mem_append.mp hx with q | q
      · obtain ⟨q1, q2⟩ := g2 x ox kx (List.mem_cons_of_mem _ q)
        have ne : x ≠ b := fun z => g4 (by rw [← z]; exact List.mem_map.mpr ⟨_, q, rfl⟩)
        exact ⟨q1, by rw [put_ne ne]; exact q2⟩
      · obtain ⟨p, hp, e⟩ := List.mem_map.mp q
        injection e with e1 e2
        injection e2 with e2 e3
        obtain ⟨n1, n2, _, n4⟩ := new p.1 p.2 hp
        subst e1 e2 e3
        exact ⟨n1, by rw [put_ne n4]; exact n2⟩
    · rw [List.map_append, List.map_map]
      refine List.nodup_append.mpr ⟨g5, ?_, fun x hx y hy e => ?_⟩
      · exact (own'_fnd hc).1
      · obtain ⟨p, hp, e1⟩ := List.mem_map.mp hy
        have e1' : p.1 = y := e1
        exact (new p.1 p.2 hp).2.2.1 (by rw [e1', ← e]; exact hx)
theorem BI.fail1 {b : Int} {o k : Option Int} {v : Option Int × Option Int} (h : BI n gd R W found ((b, o, k) :: todo)) (hn : found b = some v) : ¬ ∃ G, IsF n gd R W G := fun ⟨G, F⟩ => by
  have q := ((h.gd' G F).2.1 b o k List.mem_cons_self).2
  rw [hn] at q; cases q
theorem BI.fail2 {b : Int} {o k : Option Int} (h : BI n gd R W found ((b, o, k) :: todo)) (hc : own' n gd k (W b) = none) : ¬ ∃ G, IsF n gd R W G := fun ⟨G, F⟩ => by
  have q := ((h.gd' G F).2.1 b o k List.mem_cons_self).1
  obtain ⟨cs, e, _⟩ := F.kids b o k q
  rw [hc] at e; cases e
theorem BI.done (h : BI n gd R W found []) : IsF n gd R W found where
  root := fun b k hb => (h.r1 b k hb).resolve_right fun z => by cases z
  rootOf := fun b k hb => by
    rcases h.f1 _ _ _ hb with ⟨_, z⟩ | ⟨p, _, _, _, _, e1, _⟩
    · exact z
    · cases e1
  kids := fun x o k hx => by
    obtain ⟨cs, e1, e2⟩ := h.k1 _ _ _ hx
    refine ⟨cs, e1, fun c ck => ⟨fun hm => (e2 c ck hm).resolve_right (fun z => by cases z), fun hc => ?_⟩⟩
    rcases h.f1 _ _ _ hc with ⟨z, _⟩ | ⟨p, op, kp, cs', k', q1, q2, q3, q4, q5⟩
    · cases z
    · have ep : x = p := Option.some.inj q1
      rw [← ep, hx] at q2
      have e3 := Option.some.inj q2
      injection e3 with e4 e5
      rw [← ep, ← e5, e1] at q3
      have ek : ck = k' := Option.some.inj q5
      rw [Option.some.inj q3, ek]; exact q4
  par := fun c p ck hc => by
    rcases h.f1 _ _ _ hc with ⟨z, _⟩ | ⟨p', op, kp, cs', k', q1, q2, q3, q4, q5⟩
    · cases z
    · have ep : p = p' := Option.some.inj q1
      exact ⟨⟨_, by rw [ep]; exact q2⟩, k', q5⟩
  rank := h.rk
end
end SH

set_option linter.all false
set_option maxHeartbeats 4000000
namespace SH
/-! ### the state of the blocks -/
inductive Op where
  | wr (b : Int) (w : Wd) (e : Int)
  | rd (b : Int) (e : Int)
def Op.blk : Op → Int
  | .wr b _ _ => b
  | .rd b _ => b
def Op.env : Op → Int
  | .wr _ _ e => e
  | .rd _ e => e
structure St where
  held : Int → Wd
  queue : List Op
  buf : Int → Option (Int × Wd)
  kept : Int → Option (Int × Option Int)
  fresh : Int → Bool
def Env (e : Int) : Prop := 0 ≤ e ∧ e < 4
def Okw (w : Wd) : Prop := w.length = 8 ∧ ∀ x ∈ w, 0 ≤ x ∧ x ≤ 4294967295
def Clean (e : Int) (w : Wd) : Prop := ∀ x ∈ (w.drop 4).take 3, x = 0 ∨ x = 100 + e
def setW (W : Int → Wd) (b : Int) (w : Wd) : Int → Wd := fun x => if x = b then w else W x
theorem setW_same {W : Int → Wd} {b : Int} {w : Wd} : setW W b w b = w := if_pos rfl
theorem setW_ne {W : Int → Wd} {b x : Int} {w : Wd} (h : x ≠ b) : setW W b w x = W x := if_neg h
def setO {α : Type} (m : Int → Option α) (b : Int) (v : Option α) : Int → Option α := fun x => if x = b then v else m x
theorem setO_same {α : Type} {m : Int → Option α} {b : Int} {v : Option α} : setO m b v b = v := if_pos rfl
theorem setO_ne {α : Type} {m : Int → Option α} {b x : Int} {v : Option α} (h : x ≠ b) : setO m b v x = m x := if_neg h
def setB (m : Int → Bool) (b : Int) (v : Bool) : Int → Bool := fun x => if x = b then v else m x
theorem setB_same {m : Int → Bool} {b : Int} {v : Bool} : setB m b v b = v := if_pos rfl
theorem setB_ne {m : Int → Bool} {b x : Int} {v : Bool} (h : x ≠ b) : setB m b v x = m x := if_neg h
def R1 (e : Int) : Rt := fun b => if b = e then some (some 1) else none
def RM (s : St) (e : Int) : Rt := fun b => if b = e then some (some 1) else match s.kept b with
  | some (f, k) => if f = e then some k else none
  | none => none
def memW (s : St) (b : Int) : Wd := match s.buf b with
  | some p => p.2
  | none => s.held b
structure Bas (n : Int) (s : St) : Prop where
  held : ∀ b, 0 ≤ b → b < n → Okw (s.held b)
  queue : ∀ op ∈ s.queue, Env op.env ∧ 0 ≤ op.blk ∧ op.blk < n
  wrs : ∀ b w e, Op.wr b w e ∈ s.queue → Okw w
  buf : ∀ b e w, s.buf b = some (e, w) → Env e ∧ 0 ≤ b ∧ b < n ∧ Okw w
  kept : ∀ b e k, s.kept b = some (e, k) → Env e ∧ 4 ≤ b ∧ b < n ∧ ∀ k', k = some k' → GK k'
  fresh : ∀ b, s.fresh b = true → 0 ≤ b ∧ b < n
  qnd : (s.queue.map Op.blk).Nodup
def Ch (s : St) (L M C : Int → Mp) (e b : Int) : Prop := (∃ v, L e b = some v) ∨ (∃ v, M e b = some v) ∨ (∃ v, C e b = some v) ∨ ∃ op ∈ s.queue, op.env = e ∧ op.blk = b
def Qt (n : Int) (gd : Int → Bool) (s : St) (L : Int → Mp) (b : Int) (w : Wd) (e : Int) : Prop := IsF n gd (R1 e) (setW s.held b w) (L e)
structure InvB (n : Int) (gd : Int → Bool) (s : St) (L M C : Int → Mp) : Prop where
  bas : Bas n s
  lf : ∀ e, Env e → IsF n gd (R1 e) s.held (L e)
  mf : ∀ e, Env e → IsF n gd (RM s e) (memW s) (M e)
  dis : ∀ e f b, Env e → Env f → Ch s L M C e b → Ch s L M C f b → e = f
  qw : ∀ b w e, Op.wr b w e ∈ s.queue → Clean e w ∧ (Qt n gd s L b w e ∨ (¬ Qt n gd s L b w e ∧ IsF n gd (R1 e) (setW s.held b w) (C e) ∧ (∀ x v, C e x = some v → s.fresh x = true) ∧ ∀ b' w', Op.wr b' w' e ∈ s.queue → b' = b))
  cz : ∀ e x v, C e x = some v → ∃ b w, Op.wr b w e ∈ s.queue ∧ ¬ Qt n gd s L b w e
  lfresh : ∀ e b v, Env e → L e b = some v → s.fresh b = true
  clean : ∀ e b, Env e → Ch s L M C e b → s.fresh b = true → Clean e (s.held b)
  bufs : ∀ b e w, s.buf b = some (e, w) → Clean e w ∧ ∃ o k, M e b = some (o, some k)
  nobuf : ∀ e b v, Env e → M e b = some v → s.buf b = none → ∀ w f, ¬ Op.wr b w f ∈ s.queue
  keptN : ∀ b e, s.kept b = some (e, none) → s.fresh b = false ∧ s.buf b = none ∧ ∀ op ∈ s.queue, op.blk ≠ b
  rds : ∀ b e, Op.rd b e ∈ s.queue → s.fresh b = true
section
variable {n : Int} {gd : Int → Bool} {s : St} {L M C : Int → Mp}
theorem q_uniq {q : List Op} (h : (q.map Op.blk).Nodup) {a b : Op} (ha : a ∈ q) (hb : b ∈ q) (e : a.blk = b.blk) : a = b := by
  induction q with
  | nil => cases ha
  | cons c r ih =>
    rw [List.map_cons] at h
    obtain ⟨h1, h2⟩ := List.nodup_cons.mp h
    rcases List.mem_cons.mp ha with ea | ha
    · rcases List.mem_cons.mp hb with eb | hb
      · rw [ea, eb]
      · exact absurd (List.mem_map.mpr ⟨b, hb, by rw [← ea]; exact e.symm⟩) h1
    · rcases List.mem_cons.mp hb with eb | hb
      · exact absurd (List.mem_map.mpr ⟨a, ha, by rw [← eb]; exact e⟩) h1
      · exact ih h2 ha hb
theorem R1_iff {e b : Int} {k : Option Int} : R1 e b = some k ↔ b = e ∧ k = some 1 := by
  unfold R1
  by_cases h : b = e
  · rw [if_pos h]
    constructor
    · intro q
      exact ⟨h, (Option.some.inj q).symm⟩
    · rintro ⟨_, rfl⟩; rfl
  · rw [if_neg h]
    constructor
    · intro q; cases q
    · rintro ⟨q, _⟩; exact absurd q h
theorem RM_root {e : Int} : RM s e e = some (some 1) := if_pos rfl
theorem RM_iff {e b : Int} {k : Option Int} (hb : b ≠ e) : RM s e b = some k ↔ s.kept b = some (e, k) := by
  unfold RM
  rw [if_neg hb]
  cases q : s.kept b with
  | none => simp
  | some p =>
    obtain ⟨f, kf⟩ := p
    by_cases h : f = e
    · subst h; simp
    · simp [h]
theorem memW_some {b e : Int} {w : Wd} (h : s.buf b = some (e, w)) : memW s b = w := by unfold memW; rw [h]
theorem memW_none {b : Int} (h : s.buf b = none) : memW s b = s.held b := by unfold memW; rw [h]
theorem Bas.kept4 (a : Bas n s) {b e : Int} {k : Option Int} (h : s.kept b = some (e, k)) : ¬ (b = e) := fun z => by
  have q := a.kept b e k h
  have q1 := q.1.2
  omega
theorem Bas.memW (a : Bas n s) {b : Int} (h0 : 0 ≤ b) (h1 : b < n) : Okw (memW s b) := by
  cases q : s.buf b with
  | none => rw [memW_none q]; exact a.held b h0 h1
  | some p => rw [memW_some (e := p.1) (w := p.2) q]; exact (a.buf b p.1 p.2 q).2.2.2
/-- what lies in a memory forest -/
theorem InvB.mrng (a : InvB n gd s L M C) (hn : 4 ≤ n) {e b : Int} {v : Option Int × Option Int} (he : Env e) (h : M e b = some v) : 0 ≤ b ∧ b < n := by
  obtain ⟨o, k⟩ := v
  rcases (a.mf e he).rng h with ⟨q, _⟩ | ⟨q1, q2, _⟩
  · by_cases hb : b = e
    · have := he.1; have := he.2; omega
    · have := a.bas.kept _ _ _ ((RM_iff hb).mp q); omega
  · omega
theorem InvB.lrng (a : InvB n gd s L M C) (hn : 4 ≤ n) {e b : Int} {v : Option Int × Option Int} (he : Env e) (h : L e b = some v) : 0 ≤ b ∧ b < n ∧ (b = e ∨ 4 ≤ b) := by
  obtain ⟨o, k⟩ := v
  rcases (a.lf e he).rng h with ⟨q, _⟩ | ⟨q1, q2, _⟩
  · have := (R1_iff.mp q).1
    have := he.1; have := he.2; omega
  · omega
/-- kinds in a memory forest: the root's, or one of data and the two -/
theorem InvB.mkind (a : InvB n gd s L M C) {e b : Int} {o : Option Int} {k : Int} (he : Env e) (h : M e b = some (o, some k)) : GK k ∨ k = 1 := by
  rcases (a.mf e he).rng h with ⟨q, _⟩ | ⟨_, _, k', q, q'⟩
  · by_cases hb : b = e
    · subst hb
      rw [RM_root] at q
      exact .inr (Option.some.inj (Option.some.inj q)).symm
    · exact .inl ((a.bas.kept _ _ _ ((RM_iff hb).mp q)).2.2.2 k rfl)
  · rw [Option.some.inj q]; exact .inl q'
theorem InvB.mnone (a : InvB n gd s L M C) {e b : Int} {o : Option Int} (he : Env e) (h : M e b = some (o, none)) : s.kept b = some (e, none) := by
  rcases (a.mf e he).rng h with ⟨q, _⟩ | ⟨_, _, k', q, q'⟩
  · by_cases hb : b = e
    · subst hb
      rw [RM_root] at q
      cases Option.some.inj q
    · exact (RM_iff hb).mp q
  · cases q
theorem InvB.roots (a : InvB n gd s L M C) {e : Int} (he : Env e) : L e e = some (none, some 1) ∧ M e e = some (none, some 1) :=
  ⟨(a.lf e he).root e _ (if_pos rfl), (a.mf e he).root e _ RM_root⟩
theorem InvB.keptM (a : InvB n gd s L M C) {e b : Int} {k : Option Int} (h : s.kept b = some (e, k)) : M e b = some (none, k) :=
  (a.mf e (a.bas.kept _ _ _ h).1).root b k ((RM_iff (a.bas.kept4 h)).mpr h)

/-! ### what a request does to the forests -/
theorem IsF.addRoot {R : Rt} {W W' : Int → Wd} {G : Mp} {b : Int} (F : IsF n gd R W G) (hb : G b = none) (hW : ∀ x, x ≠ b → W' x = W x) : IsF n gd (setO R b (some none)) W' (put G b (none, none)) where
  root := fun x k hx => by
    by_cases e : x = b
    · subst e
      rw [setO_same] at hx
      rw [put_same, Option.some.inj hx]
    · rw [setO_ne e] at hx
      rw [put_ne e]; exact F.root x k hx
  rootOf := fun x k hx => by
    by_cases e : x = b
    · subst e
      rw [put_same] at hx
      rw [setO_same]
      injection Option.some.inj hx with _ q
      rw [q]
    · rw [put_ne e] at hx
      rw [setO_ne e]; exact F.rootOf x k hx
  kids := fun x o k hx => by
    have nob : ∀ c ck, ¬ G c = some (some b, ck) := fun c ck hc => by
      obtain ⟨⟨v, q⟩, _⟩ := F.par _ _ _ hc
      rw [hb] at q; cases q
    by_cases e : x = b
    · subst e
      rw [put_same] at hx
      injection Option.some.inj hx with _ q
      subst q
      refine ⟨[], rfl, fun c ck => ⟨fun hm => (by cases hm), fun hc => ?_⟩⟩
      by_cases ec : c = x
      · subst ec
        rw [put_same] at hc
        injection Option.some.inj hc with q1 _
        cases q1
      · rw [put_ne ec] at hc
        exact absurd hc (nob _ _)
    · rw [put_ne e] at hx
      obtain ⟨cs, e1, e2⟩ := F.kids x o k hx
      refine ⟨cs, by rw [hW x e]; exact e1, fun c ck => ?_⟩
      rw [e2 c ck]
      by_cases ec : c = b
      · subst ec
        rw [put_same, hb]
        constructor
        · intro z; cases z
        · intro z
          injection Option.some.inj z with q1 _
          cases q1
      · rw [put_ne ec]
  par := fun c p ck hc => by
    by_cases ec : c = b
    · subst ec
      rw [put_same] at hc
      injection Option.some.inj hc with q1 _
      cases q1
    · rw [put_ne ec] at hc
      obtain ⟨⟨v, q⟩, r⟩ := F.par _ _ _ hc
      refine ⟨⟨v, ?_⟩, r⟩
      rw [put_ne (fun z => by rw [z, hb] at q; cases q)]
      exact q
  rank := by
    obtain ⟨r, B, hB, hr⟩ := F.rank
    refine ⟨r, B, hB, fun c p ck hc => ?_⟩
    by_cases ec : c = b
    · subst ec
      rw [put_same] at hc
      injection Option.some.inj hc with q1 _
      cases q1
    · rw [put_ne ec] at hc
      exact hr _ _ _ hc
theorem IsF.delRoot {R : Rt} {W W' : Int → Wd} {G : Mp} {b : Int} {k0 : Option Int} (F : IsF n gd R W G) (hb : G b = some (none, k0)) (hc : ∀ c o k, G c = some (o, k) → o ≠ some b) (hW : ∀ x, x ≠ b → W' x = W x) :
    IsF n gd (setO R b none) W' (setO G b none) where
  root := fun x k hx => by
    by_cases e : x = b
    · rw [e, setO_same] at hx; cases hx
    · rw [setO_ne e] at hx ⊢
      exact F.root x k hx
  rootOf := fun x k hx => by
    by_cases e : x = b
    · rw [e, setO_same] at hx; cases hx
    · rw [setO_ne e] at hx ⊢
      exact F.rootOf x k hx
  kids := fun x o k hx => by
    by_cases e : x = b
    · rw [e, setO_same] at hx; cases hx
    · rw [setO_ne e] at hx
      obtain ⟨cs, e1, e2⟩ := F.kids x o k hx
      refine ⟨cs, by rw [hW x e]; exact e1, fun c ck => ?_⟩
      rw [e2 c ck]
      by_cases ec : c = b
      · subst ec
        rw [setO_same, hb]
        constructor
        · intro z
          injection Option.some.inj z with q1 _
          cases q1
        · intro z; cases z
      · rw [setO_ne ec]
  par := fun c p ck h => by
    by_cases ec : c = b
    · rw [ec, setO_same] at h; cases h
    · rw [setO_ne ec] at h
      obtain ⟨⟨v, q⟩, r⟩ := F.par _ _ _ h
      refine ⟨⟨v, ?_⟩, r⟩
      rw [setO_ne (fun z => hc _ _ _ h (by rw [z]))]
      exact q
  rank := by
    obtain ⟨r, B, hB, hr⟩ := F.rank
    refine ⟨r, B, hB, fun c p ck h => ?_⟩
    by_cases ec : c = b
    · rw [ec, setO_same] at h; cases h
    · rw [setO_ne ec] at h
      exact hr _ _ _ h
theorem IsF.reKind {R : Rt} {W W' : Int → Wd} {G : Mp} {b k0 : Int} (F : IsF n gd R W G) (hb : G b = some (none, none)) (hz : own n gd k0 (W' b) = some []) (hW : ∀ x, x ≠ b → W' x = W x) :
    IsF n gd (setO R b (some (some k0))) W' (put G b (none, some k0)) := by
  have nob : ∀ c ck, ¬ G c = some (some b, ck) := fun c ck hc => by
    obtain ⟨_, k', rfl⟩ := F.par _ _ _ hc
    obtain ⟨cs, e1, e2⟩ := F.kids b none none hb
    have q := (e2 c k').mpr hc
    rw [← Option.some.inj e1] at q
    cases q
  exact {
    root := fun x k hx => by
      by_cases e : x = b
      · subst e
        rw [setO_same] at hx
        rw [put_same, Option.some.inj hx]
      · rw [setO_ne e] at hx
        rw [put_ne e]; exact F.root x k hx
    rootOf := fun x k hx => by
      by_cases e : x = b
      · subst e
        rw [put_same] at hx
        rw [setO_same]
        injection Option.some.inj hx with _ q
        rw [q]
      · rw [put_ne e] at hx
        rw [setO_ne e]; exact F.rootOf x k hx
    kids := fun x o k hx => by
      by_cases e : x = b
      · subst e
        rw [put_same] at hx
        injection Option.some.inj hx with _ q
        subst q
        refine ⟨[], hz, fun c ck => ⟨fun hm => (by cases hm), fun hc => ?_⟩⟩
        by_cases ec : c = x
        · subst ec
          rw [put_same] at hc
          injection Option.some.inj hc with q1 _
          cases q1
        · rw [put_ne ec] at hc
          exact absurd hc (nob _ _)
      · rw [put_ne e] at hx
        obtain ⟨cs, e1, e2⟩ := F.kids x o k hx
        refine ⟨cs, by rw [hW x e]; exact e1, fun c ck => ?_⟩
        rw [e2 c ck]
        by_cases ec : c = b
        · subst ec
          rw [put_same, hb]
          constructor
          · intro z
            injection Option.some.inj z with q1 _
            cases q1
          · intro z
            injection Option.some.inj z with q1 _
            cases q1
        · rw [put_ne ec]
    par := fun c p ck hc => by
      by_cases ec : c = b
      · subst ec
        rw [put_same] at hc
        injection Option.some.inj hc with q1 _
        cases q1
      · rw [put_ne ec] at hc
        obtain ⟨⟨v, q⟩, r⟩ := F.par _ _ _ hc
        by_cases ep : p = b
        · subst ep; exact absurd hc (nob _ _)
        · exact ⟨⟨v, by rw [put_ne ep]; exact q⟩, r⟩
    rank := by
      obtain ⟨r, B, hB, hr⟩ := F.rank
      refine ⟨r, B, hB, fun c p ck hc => ?_⟩
      by_cases ec : c = b
      · subst ec
        rw [put_same] at hc
        injection Option.some.inj hc with q1 _
        cases q1
      · rw [put_ne ec] at hc
        exact hr _ _ _ hc }
theorem IsF.roots {R R' : Rt} {W : Int → Wd} {G : Mp} (F : IsF n gd R W G) (h : ∀ b, R' b = R b) : IsF n gd R' W G := by
  have e : R' = R := funext h
  rw [e]; exact F
def setE (M : Int → Mp) (e : Int) (G : Mp) : Int → Mp := fun f => if f = e then G else M f
theorem setE_same {M : Int → Mp} {e : Int} {G : Mp} : setE M e G e = G := if_pos rfl
theorem setE_ne {M : Int → Mp} {e f : Int} {G : Mp} (h : f ≠ e) : setE M e G f = M f := if_neg h
end
end SH

set_option linter.all false
set_option maxHeartbeats 4000000
namespace SH
section
variable {n : Int} {gd : Int → Bool} {s : St} {L M C : Int → Mp}
theorem InvB.chM (a : InvB n gd s L M C) {e b : Int} {v : Option Int × Option Int} (h : M e b = some v) : Ch s L M C e b := .inr (.inl ⟨v, h⟩)
theorem InvB.chL (a : InvB n gd s L M C) {e b : Int} {v : Option Int × Option Int} (h : L e b = some v) : Ch s L M C e b := .inl ⟨v, h⟩
theorem InvB.chC (a : InvB n gd s L M C) {e b : Int} {v : Option Int × Option Int} (h : C e b = some v) : Ch s L M C e b := .inr (.inr (.inl ⟨v, h⟩))
theorem chQ {op : Op} (h : op ∈ s.queue) : Ch s L M C op.env op.blk := .inr (.inr (.inr ⟨op, h, rfl, rfl⟩))
theorem InvB.bufM (a : InvB n gd s L M C) {e b : Int} {w : Wd} (h : s.buf b = some (e, w)) : Env e ∧ ∃ o k, M e b = some (o, some k) := ⟨(a.bas.buf b e w h).1, (a.bufs b e w h).2⟩
theorem InvB.envC (a : InvB n gd s L M C) {e x : Int} {v : Option Int × Option Int} (h : C e x = some v) : Env e := by
  obtain ⟨b, w, hq, _⟩ := a.cz e x v h
  exact (a.bas.queue _ hq).1
theorem env_lt {e b : Int} (he : Env e) (h4 : 4 ≤ b) : ¬ b = e := fun z => by have := he.2; omega

theorem InvB.reserve (a : InvB n gd s L M C) {e b : Int} (he : Env e) (h4 : 4 ≤ b) (hn : b < n) (free : ∀ f, Env f → ¬ Ch s L M C f b) :
    InvB n gd { s with kept := setO s.kept b (some (e, none)), fresh := setB s.fresh b false } L (setE M e (put (M e) b (none, none))) C := by
  have kb : s.kept b = none := by
    cases q : s.kept b with
    | none => rfl
    | some p =>
      obtain ⟨f, k⟩ := p
      exact (free f (a.bas.kept b f k q).1 (a.chM (a.keptM q))).elim
  have mb : ∀ f, Env f → M f b = none := fun f hf => by
    cases q : M f b with
    | none => rfl
    | some v => exact (free f hf (a.chM q)).elim
  have bb : s.buf b = none := by
    cases q : s.buf b with
    | none => rfl
    | some p =>
      obtain ⟨hf, o, k, z⟩ := a.bufM (e := p.1) (w := p.2) q
      rw [mb _ hf] at z; cases z
  have qb : ∀ op ∈ s.queue, op.blk ≠ b := fun op hop z => free op.env (a.bas.queue op hop).1 (z ▸ chQ hop)
  have ch : ∀ f x, Ch { s with kept := setO s.kept b (some (e, none)), fresh := setB s.fresh b false } L (setE M e (put (M e) b (none, none))) C f x → Ch s L M C f x ∨ (f = e ∧ x = b) := fun f x h => by
    rcases h with h | ⟨v, h⟩ | h | h
    · exact .inl (.inl h)
    · by_cases hf : f = e
      · subst hf
        rw [setE_same] at h
        by_cases hx : x = b
        · exact .inr ⟨rfl, hx⟩
        · rw [put_ne hx] at h
          exact .inl (a.chM h)
      · rw [setE_ne hf] at h
        exact .inl (a.chM h)
    · exact .inl (.inr (.inr (.inl h)))
    · exact .inl (.inr (.inr (.inr h)))
  refine ⟨⟨a.bas.held, a.bas.queue, a.bas.wrs, a.bas.buf, fun x f k h => ?_, fun x h => ?_, a.bas.qnd⟩, a.lf, fun f hf => ?_, fun f g x hf hg h1 h2 => ?_, fun x w f h => ?_, a.cz, fun f x v hf h => ?_, fun f x hf h1 h2 => ?_, fun x f w h => ?_, fun f x v hf h hb w g hq => ?_, fun x f h => ?_, fun x f h => ?_⟩
  · by_cases hx : x = b
    · subst hx
      have h : setO s.kept x (some (e, none)) x = some (f, k) := h
      rw [setO_same] at h
      injection Option.some.inj h with e1 e2
      subst e1 e2
      exact ⟨he, h4, hn, fun k' z => by cases z⟩
    · have h : setO s.kept b (some (e, none)) x = some (f, k) := h
      rw [setO_ne hx] at h
      exact a.bas.kept x f k h
  · by_cases hx : x = b
    · subst hx
      omega
    · have h : setB s.fresh b false x = true := h
      rw [setB_ne hx] at h
      exact a.bas.fresh x h
  · by_cases h : f = e
    · subst h
      rw [setE_same]
      refine ((a.mf f hf).addRoot (W' := memW s) (mb f hf) fun _ _ => rfl).roots fun x => ?_
      by_cases hx : x = b
      · subst hx
        rw [setO_same]
        show (if x = f then some (some 1) else match setO s.kept x (some (f, none)) x with | some (g, k) => if g = f then some k else none | none => none) = some none
        rw [if_neg (env_lt he h4), setO_same]
        exact if_pos rfl
      · rw [setO_ne hx]
        show (if x = f then some (some 1) else match setO s.kept b (some (f, none)) x with | some (g, k) => if g = f then some k else none | none => none) = RM s f x
        rw [setO_ne hx]
        rfl
    · rw [setE_ne h]
      refine (a.mf f hf).roots fun x => ?_
      show (if x = f then some (some 1) else match setO s.kept b (some (e, none)) x with | some (g, k) => if g = f then some k else none | none => none) = RM s f x
      by_cases hx : x = b
      · subst hx
        rw [setO_same]
        unfold RM
        rw [if_neg (env_lt hf h4), if_neg (env_lt hf h4), kb]
        exact if_neg fun z => h z.symm
      · rw [setO_ne hx]
        rfl
  · rcases ch f x h1 with h1 | ⟨e1, e2⟩
    · rcases ch g x h2 with h2 | ⟨e3, e4⟩
      · exact a.dis f g x hf hg h1 h2
      · exact (free f hf (e4 ▸ h1)).elim
    · rcases ch g x h2 with h2 | ⟨e3, e4⟩
      · exact (free g hg (e2 ▸ h2)).elim
      · rw [e1, e3]
  · obtain ⟨h1, h2⟩ := a.qw x w f h
    refine ⟨h1, h2.imp (fun z => z) fun ⟨p1, p2, p3, p4⟩ => ⟨p1, p2, fun y v hy => ?_, p4⟩⟩
    have ne : y ≠ b := fun z => free f (a.envC hy) (z ▸ a.chC hy)
    show setB s.fresh b false y = true
    rw [setB_ne ne]
    exact p3 y v hy
  · have ne : x ≠ b := fun z => free f hf (z ▸ a.chL h)
    show setB s.fresh b false x = true
    rw [setB_ne ne]
    exact a.lfresh f x v hf h
  · have ne : x ≠ b := fun z => by
      have h2 : setB s.fresh b false x = true := h2
      rw [z, setB_same] at h2
      cases h2
    have h2 : setB s.fresh b false x = true := h2
    rw [setB_ne ne] at h2
    rcases ch f x h1 with h1 | ⟨_, z⟩
    · exact a.clean f x hf h1 h2
    · exact absurd z ne
  · obtain ⟨h1, o, k, h2⟩ := a.bufs x f w h
    refine ⟨h1, o, k, ?_⟩
    have ne : x ≠ b := fun z => by rw [z, bb] at h; cases h
    by_cases hf : f = e
    · subst hf
      rw [setE_same, put_ne ne]; exact h2
    · rw [setE_ne hf]; exact h2
  · by_cases hf' : f = e
    · subst hf'
      rw [setE_same] at h
      by_cases hx : x = b
      · exact qb _ hq hx
      · rw [put_ne hx] at h
        exact a.nobuf f x v hf h hb w g hq
    · rw [setE_ne hf'] at h
      exact a.nobuf f x v hf h hb w g hq
  · by_cases hx : x = b
    · subst hx
      exact ⟨setB_same, bb, qb⟩
    · have h : setO s.kept b (some (e, none)) x = some (f, none) := h
      rw [setO_ne hx] at h
      obtain ⟨h1, h2, h3⟩ := a.keptN x f h
      exact ⟨(setB_ne hx).trans h1, h2, h3⟩
  · have ne : x ≠ b := qb _ h
    show setB s.fresh b false x = true
    rw [setB_ne ne]
    exact a.rds x f h

theorem InvB.unreserve (a : InvB n gd s L M C) {e b : Int} {k0 : Option Int} (kb : s.kept b = some (e, k0)) (hq : ∀ op ∈ s.queue, op.blk ≠ b) (hc : ∀ c o k, M e c = some (o, k) → o ≠ some b) :
    InvB n gd { s with kept := setO s.kept b none, buf := setO s.buf b none } L (setE M e (setO (M e) b none)) C := by
  obtain ⟨he, h4, hn, _⟩ := a.bas.kept b e k0 kb
  have mb := a.keptM kb
  have oth : ∀ f, Env f → f ≠ e → M f b = none := fun f hf ne => by
    cases q : M f b with
    | none => rfl
    | some v => exact absurd (a.dis f e b hf he (a.chM q) (a.chM mb)) ne
  have ch : ∀ f x, Ch { s with kept := setO s.kept b none, buf := setO s.buf b none } L (setE M e (setO (M e) b none)) C f x → Ch s L M C f x := fun f x h => by
    rcases h with h | ⟨v, h⟩ | h | h
    · exact .inl h
    · by_cases hf : f = e
      · subst hf
        rw [setE_same] at h
        by_cases hx : x = b
        · rw [hx, setO_same] at h; cases h
        · rw [setO_ne hx] at h
          exact a.chM h
      · rw [setE_ne hf] at h
        exact a.chM h
    · exact .inr (.inr (.inl h))
    · exact .inr (.inr (.inr h))
  have mw : ∀ x, x ≠ b → memW { s with kept := setO s.kept b none, buf := setO s.buf b none } x = memW s x := fun x hx => by
    show (match setO s.buf b none x with | some p => p.2 | none => s.held x) = _
    rw [setO_ne hx]
    rfl
  refine ⟨⟨a.bas.held, a.bas.queue, a.bas.wrs, fun x f w h => ?_, fun x f k h => ?_, a.bas.fresh, a.bas.qnd⟩, a.lf, fun f hf => ?_, fun f g x hf hg h1 h2 => a.dis f g x hf hg (ch f x h1) (ch g x h2), a.qw, a.cz, a.lfresh, fun f x hf h1 h2 => a.clean f x hf (ch f x h1) h2, fun x f w h => ?_, fun f x v hf h hb w g hqq => ?_, fun x f h => ?_, a.rds⟩
  · by_cases hx : x = b
    · have h : setO s.buf b none x = some (f, w) := h
      rw [hx, setO_same] at h; cases h
    · have h : setO s.buf b none x = some (f, w) := h
      rw [setO_ne hx] at h
      exact a.bas.buf x f w h
  · by_cases hx : x = b
    · have h : setO s.kept b none x = some (f, k) := h
      rw [hx, setO_same] at h; cases h
    · have h : setO s.kept b none x = some (f, k) := h
      rw [setO_ne hx] at h
      exact a.bas.kept x f k h
  · by_cases h : f = e
    · subst h
      rw [setE_same]
      refine ((a.mf f hf).delRoot mb hc mw).roots fun x => ?_
      by_cases hx : x = b
      · subst hx
        rw [setO_same]
        show (if x = f then some (some 1) else match setO s.kept x none x with | some (g, k) => if g = f then some k else none | none => none) = none
        rw [if_neg (env_lt he h4), setO_same]
      · rw [setO_ne hx]
        show (if x = f then some (some 1) else match setO s.kept b none x with | some (g, k) => if g = f then some k else none | none => none) = RM s f x
        rw [setO_ne hx]
        rfl
    · rw [setE_ne h]
      refine ((a.mf f hf).same fun x v hx => mw x fun z => ?_).roots fun x => ?_
      · rw [z, oth f hf h] at hx; cases hx
      · show (if x = f then some (some 1) else match setO s.kept b none x with | some (g, k) => if g = f then some k else none | none => none) = RM s f x
        by_cases hx : x = b
        · subst hx
          rw [setO_same]
          unfold RM
          rw [kb]
          rw [if_neg (env_lt hf h4), if_neg (env_lt hf h4)]
          exact (if_neg fun z => h z.symm).symm
        · rw [setO_ne hx]
          rfl
  · have ne : x ≠ b := fun z => by
      have h : setO s.buf b none x = some (f, w) := h
      rw [z, setO_same] at h; cases h
    have h : setO s.buf b none x = some (f, w) := h
    rw [setO_ne ne] at h
    obtain ⟨h1, o, k, h2⟩ := a.bufs x f w h
    refine ⟨h1, o, k, ?_⟩
    by_cases hf : f = e
    · subst hf
      rw [setE_same, setO_ne ne]; exact h2
    · rw [setE_ne hf]; exact h2
  · have ne : x ≠ b := fun z => hq _ hqq z
    have hb : setO s.buf b none x = none := hb
    rw [setO_ne ne] at hb
    by_cases hf' : f = e
    · subst hf'
      rw [setE_same, setO_ne ne] at h
      exact a.nobuf f x v hf h hb w g hqq
    · rw [setE_ne hf'] at h
      exact a.nobuf f x v hf h hb w g hqq
  · have ne : x ≠ b := fun z => by
      have h : setO s.kept b none x = some (f, none) := h
      rw [z, setO_same] at h; cases h
    have h : setO s.kept b none x = some (f, none) := h
    rw [setO_ne ne] at h
    obtain ⟨h1, h2, h3⟩ := a.keptN x f h
    exact ⟨h1, (setO_ne ne).trans h2, h3⟩

theorem clean_zer {e : Int} : Clean e zer := fun x hx => by
  simp only [zer, List.drop, List.take, List.mem_cons, List.not_mem_nil, or_false] at hx
  rcases hx with rfl | rfl | rfl <;> exact .inl rfl
theorem okw_zer : Okw zer := ⟨rfl, fun x hx => by
  simp only [zer, List.mem_cons, List.not_mem_nil, or_false] at hx
  rcases hx with rfl | rfl | rfl | rfl | rfl | rfl | rfl | rfl <;> exact ⟨by decide, by decide⟩⟩

theorem InvB.fill (a : InvB n gd s L M C) (hg : gd 0 = false) {e b k0 : Int} (kb : s.kept b = some (e, none)) (hk : GK k0) :
    InvB n gd { s with kept := setO s.kept b (some (e, some k0)), buf := setO s.buf b (some (e, zer)) } L (setE M e (put (M e) b (none, some k0))) C := by
  obtain ⟨he, h4, hn, _⟩ := a.bas.kept b e none kb
  have mb := a.keptM kb
  obtain ⟨kf, kbuf, kq⟩ := a.keptN b e kb
  have oth : ∀ f, Env f → f ≠ e → M f b = none := fun f hf ne => by
    cases q : M f b with
    | none => rfl
    | some v => exact absurd (a.dis f e b hf he (a.chM q) (a.chM mb)) ne
  have ch : ∀ f x, Ch { s with kept := setO s.kept b (some (e, some k0)), buf := setO s.buf b (some (e, zer)) } L (setE M e (put (M e) b (none, some k0))) C f x → Ch s L M C f x := fun f x h => by
    rcases h with h | ⟨v, h⟩ | h | h
    · exact .inl h
    · by_cases hf : f = e
      · subst hf
        rw [setE_same] at h
        by_cases hx : x = b
        · rw [hx]; exact a.chM mb
        · rw [put_ne hx] at h
          exact a.chM h
      · rw [setE_ne hf] at h
        exact a.chM h
    · exact .inr (.inr (.inl h))
    · exact .inr (.inr (.inr h))
  have mw : ∀ x, x ≠ b → memW { s with kept := setO s.kept b (some (e, some k0)), buf := setO s.buf b (some (e, zer)) } x = memW s x := fun x hx => by
    show (match setO s.buf b (some (e, zer)) x with | some p => p.2 | none => s.held x) = _
    rw [setO_ne hx]
    rfl
  have mwb : memW { s with kept := setO s.kept b (some (e, some k0)), buf := setO s.buf b (some (e, zer)) } b = zer := by
    show (match setO s.buf b (some (e, zer)) b with | some p => p.2 | none => s.held b) = _
    rw [setO_same]
  refine ⟨⟨a.bas.held, a.bas.queue, a.bas.wrs, fun x f w h => ?_, fun x f k h => ?_, a.bas.fresh, a.bas.qnd⟩, a.lf, fun f hf => ?_, fun f g x hf hg h1 h2 => a.dis f g x hf hg (ch f x h1) (ch g x h2), a.qw, a.cz, a.lfresh, fun f x hf h1 h2 => a.clean f x hf (ch f x h1) h2, fun x f w h => ?_, fun f x v hf h hb w g hqq => ?_, fun x f h => ?_, a.rds⟩
  · have h : setO s.buf b (some (e, zer)) x = some (f, w) := h
    by_cases hx : x = b
    · rw [hx, setO_same] at h
      injection Option.some.inj h with e1 e2
      subst e1 e2
      rw [hx]
      exact ⟨he, by omega, hn, okw_zer⟩
    · rw [setO_ne hx] at h
      exact a.bas.buf x f w h
  · have h : setO s.kept b (some (e, some k0)) x = some (f, k) := h
    by_cases hx : x = b
    · rw [hx, setO_same] at h
      injection Option.some.inj h with e1 e2
      subst e1 e2
      rw [hx]
      exact ⟨he, h4, hn, fun k' z => by rw [← Option.some.inj z]; exact hk⟩
    · rw [setO_ne hx] at h
      exact a.bas.kept x f k h
  · by_cases h : f = e
    · subst h
      rw [setE_same]
      refine ((a.mf f hf).reKind (k0 := k0) mb (by rw [mwb]; exact own_zer hg (.inl hk)) mw).roots fun x => ?_
      by_cases hx : x = b
      · subst hx
        rw [setO_same]
        show (if x = f then some (some 1) else match setO s.kept x (some (f, some k0)) x with | some (g, k) => if g = f then some k else none | none => none) = some (some k0)
        rw [if_neg (env_lt he h4), setO_same]
        exact if_pos rfl
      · rw [setO_ne hx]
        show (if x = f then some (some 1) else match setO s.kept b (some (f, some k0)) x with | some (g, k) => if g = f then some k else none | none => none) = RM s f x
        rw [setO_ne hx]
        rfl
    · rw [setE_ne h]
      refine ((a.mf f hf).same fun x v hx => mw x fun z => ?_).roots fun x => ?_
      · rw [z, oth f hf h] at hx; cases hx
      · show (if x = f then some (some 1) else match setO s.kept b (some (e, some k0)) x with | some (g, k) => if g = f then some k else none | none => none) = RM s f x
        by_cases hx : x = b
        · subst hx
          rw [setO_same]
          unfold RM
          rw [kb]
          rw [if_neg (env_lt hf h4), if_neg (env_lt hf h4)]
          exact (if_neg fun z => h z.symm).trans (if_neg fun z => h z.symm).symm
        · rw [setO_ne hx]
          rfl
  · have h : setO s.buf b (some (e, zer)) x = some (f, w) := h
    by_cases hx : x = b
    · rw [hx, setO_same] at h
      injection Option.some.inj h with e1 e2
      subst e1 e2
      exact ⟨clean_zer, none, k0, by rw [setE_same, hx]; exact put_same⟩
    · rw [setO_ne hx] at h
      obtain ⟨h1, o, k, h2⟩ := a.bufs x f w h
      refine ⟨h1, o, k, ?_⟩
      by_cases hf : f = e
      · subst hf
        rw [setE_same, put_ne hx]; exact h2
      · rw [setE_ne hf]; exact h2
  · have ne : x ≠ b := fun z => kq _ hqq z
    have hb2 : s.buf x = none := (setO_ne ne).symm.trans hb
    by_cases hf' : f = e
    · subst hf'
      rw [setE_same, put_ne ne] at h
      exact a.nobuf f x v hf h hb2 w g hqq
    · rw [setE_ne hf'] at h
      exact a.nobuf f x v hf h hb2 w g hqq
  · have h : setO s.kept b (some (e, some k0)) x = some (f, none) := h
    have ne : x ≠ b := fun z => by
      rw [z, setO_same] at h
      injection Option.some.inj h with _ e2
      cases e2
    rw [setO_ne ne] at h
    obtain ⟨h1, h2, h3⟩ := a.keptN x f h
    exact ⟨h1, (setO_ne ne).trans h2, h3⟩

/-- one more operation in the queue -/
theorem InvB.fetch (a : InvB n gd s L M C) {e b : Int} {v : Option Int × Option Int} (he : Env e) (hn : 4 ≤ n) (mb : M e b = some v) (hf : s.fresh b = true) (hq : ∀ op ∈ s.queue, op.blk ≠ b) :
    InvB n gd { s with queue := s.queue ++ [Op.rd b e] } L M C := by
  have r := a.mrng hn he mb
  have inq : ∀ op, op ∈ s.queue ++ [Op.rd b e] → op ∈ s.queue ∨ op = Op.rd b e := fun op h => (List.mem_append.mp h).imp id List.mem_singleton.mp
  have ch : ∀ f x, Ch { s with queue := s.queue ++ [Op.rd b e] } L M C f x → Ch s L M C f x := fun f x h => by
    rcases h with h | h | h | ⟨op, h, h1, h2⟩
    · exact .inl h
    · exact .inr (.inl h)
    · exact .inr (.inr (.inl h))
    · rcases inq op h with q | rfl
      · exact .inr (.inr (.inr ⟨op, q, h1, h2⟩))
      · rw [← h1, ← h2]; exact a.chM mb
  have wq : ∀ x w f, Op.wr x w f ∈ s.queue ++ [Op.rd b e] → Op.wr x w f ∈ s.queue := fun x w f h => (inq _ h).resolve_right fun z => by cases z
  refine ⟨⟨a.bas.held, fun op h => ?_, fun x w f h => a.bas.wrs x w f (wq x w f h), a.bas.buf, a.bas.kept, a.bas.fresh, ?_⟩, a.lf, a.mf, fun f g x hf hg h1 h2 => a.dis f g x hf hg (ch f x h1) (ch g x h2), fun x w f h => ?_, fun f x v h => ?_, a.lfresh,
    fun f x hf h1 h2 => a.clean f x hf (ch f x h1) h2, a.bufs, fun f x v hf h hb w g hqq => a.nobuf f x v hf h hb w g (wq _ _ _ hqq), fun x f h => ?_, fun x f h => ?_⟩
  · rcases inq op h with q | rfl
    · exact a.bas.queue op q
    · exact ⟨he, r.1, r.2⟩
  · show ((s.queue ++ [Op.rd b e]).map Op.blk).Nodup
    rw [List.map_append]
    exact nodup_snoc a.bas.qnd fun z => by
      obtain ⟨op, h1, h2⟩ := List.mem_map.mp z
      exact hq op h1 h2
  · obtain ⟨h1, h2⟩ := a.qw x w f (wq _ _ _ h)
    exact ⟨h1, h2.imp (fun z => z) fun ⟨p1, p2, p3, p4⟩ => ⟨p1, p2, p3, fun b' w' h' => p4 b' w' (wq _ _ _ h')⟩⟩
  · obtain ⟨b', w', h1, h2⟩ := a.cz f x v h
    exact ⟨b', w', List.mem_append_left _ h1, h2⟩
  · obtain ⟨h1, h2, h3⟩ := a.keptN x f h
    refine ⟨h1, h2, fun op hop => ?_⟩
    rcases inq op hop with q | rfl
    · exact h3 op q
    · intro z
      have z' : b = x := z
      rw [← z', hf] at h1; cases h1
  · rcases inq _ h with q | q
    · exact a.rds x f q
    · injection q with e1 _
      rw [e1]; exact hf

theorem InvB.forget (a : InvB n gd s L M C) {e b : Int} {w0 : Wd} (hb : s.buf b = some (e, w0)) (hw : w0 = s.held b) (hq : ∀ op ∈ s.queue, op.blk ≠ b) : InvB n gd { s with buf := setO s.buf b none } L M C := by
  have mw : memW { s with buf := setO s.buf b none } = memW s := funext fun x => by
    show (match setO s.buf b none x with | some p => p.2 | none => s.held x) = _
    by_cases hx : x = b
    · subst hx
      rw [setO_same, memW_some hb, hw]
    · rw [setO_ne hx]
      rfl
  have old : ∀ x f w, setO s.buf b none x = some (f, w) → s.buf x = some (f, w) := fun x f w h => by
    by_cases hx : x = b
    · rw [hx, setO_same] at h; cases h
    · rw [setO_ne hx] at h; exact h
  refine ⟨⟨a.bas.held, a.bas.queue, a.bas.wrs, fun x f w h => a.bas.buf x f w (old _ _ _ h), a.bas.kept, a.bas.fresh, a.bas.qnd⟩, a.lf, fun f hf => by rw [mw]; exact a.mf f hf, a.dis, a.qw, a.cz, a.lfresh, a.clean,
    fun x f w h => a.bufs x f w (old _ _ _ h), fun f x v hf h hb' w g hqq => ?_, fun x f h => ?_, a.rds⟩
  · have ne : x ≠ b := fun z => hq _ hqq z
    have hb' : setO s.buf b none x = none := hb'
    rw [setO_ne ne] at hb'
    exact a.nobuf f x v hf h hb' w g hqq
  · obtain ⟨h1, h2, h3⟩ := a.keptN x f h
    refine ⟨h1, ?_, h3⟩
    show setO s.buf b none x = none
    by_cases hx : x = b
    · rw [hx]; exact setO_same
    · rw [setO_ne hx]; exact h2
end
end SH

set_option linter.all false
set_option maxHeartbeats 4000000
namespace SH
section
variable {n : Int} {gd : Int → Bool} {s : St} {L M C : Int → Mp}
theorem InvB.flushQ (a : InvB n gd s L M C) {e b : Int} {w0 : Wd} (hb : s.buf b = some (e, w0)) (hq : ∀ op ∈ s.queue, op.blk ≠ b) (hquiet : ∀ x w, Op.wr x w e ∈ s.queue → Qt n gd s L x w e) (hQ : Qt n gd s L b w0 e) :
    InvB n gd { s with queue := s.queue ++ [Op.wr b w0 e] } L M C := by
  obtain ⟨he, o, k, mb⟩ := a.bufM hb
  have r := a.bas.buf b e w0 hb
  have inq : ∀ op, op ∈ s.queue ++ [Op.wr b w0 e] → op ∈ s.queue ∨ op = Op.wr b w0 e := fun op h => (List.mem_append.mp h).imp id List.mem_singleton.mp
  have ch : ∀ f x, Ch { s with queue := s.queue ++ [Op.wr b w0 e] } L M C f x → Ch s L M C f x := fun f x h => by
    rcases h with h | h | h | ⟨op, h, h1, h2⟩
    · exact .inl h
    · exact .inr (.inl h)
    · exact .inr (.inr (.inl h))
    · rcases inq op h with q | rfl
      · exact .inr (.inr (.inr ⟨op, q, h1, h2⟩))
      · rw [← h1, ← h2]; exact a.chM mb
  refine ⟨⟨a.bas.held, fun op h => ?_, fun x w f h => ?_, a.bas.buf, a.bas.kept, a.bas.fresh, ?_⟩, a.lf, a.mf, fun f g x hf hg h1 h2 => a.dis f g x hf hg (ch f x h1) (ch g x h2), fun x w f h => ?_, fun f x v h => ?_, a.lfresh,
    fun f x hf h1 h2 => a.clean f x hf (ch f x h1) h2, a.bufs, fun f x v hf h hb' w g hqq => ?_, fun x f h => ?_, fun x f h => ?_⟩
  · rcases inq op h with q | rfl
    · exact a.bas.queue op q
    · exact ⟨he, r.2.1, r.2.2.1⟩
  · rcases inq _ h with q | q
    · exact a.bas.wrs x w f q
    · injection q with e1 e2 e3
      rw [e2]; exact r.2.2.2
  · show ((s.queue ++ [Op.wr b w0 e]).map Op.blk).Nodup
    rw [List.map_append]
    exact nodup_snoc a.bas.qnd fun z => by
      obtain ⟨op, h1, h2⟩ := List.mem_map.mp z
      exact hq op h1 h2
  · rcases inq _ h with q | q
    · obtain ⟨h1, h2⟩ := a.qw x w f q
      refine ⟨h1, ?_⟩
      by_cases hf : f = e
      · subst hf
        exact .inl (hquiet x w q)
      · refine h2.imp (fun z => z) fun ⟨p1, p2, p3, p4⟩ => ⟨p1, p2, p3, fun b' w' h' => ?_⟩
        rcases inq _ h' with q' | q'
        · exact p4 b' w' q'
        · injection q' with e1 e2 e3
          exact absurd e3 hf
    · injection q with e1 e2 e3
      subst e1 e2 e3
      exact ⟨(a.bufs _ _ _ hb).1, .inl hQ⟩
  · obtain ⟨b', w', h1, h2⟩ := a.cz f x v h
    exact ⟨b', w', List.mem_append_left _ h1, h2⟩
  · rcases inq _ hqq with q | q
    · exact a.nobuf f x v hf h hb' w g q
    · injection q with e1 e2 e3
      have hb2 : s.buf x = none := hb'
      rw [e1, hb] at hb2; cases hb2
  · obtain ⟨h1, h2, h3⟩ := a.keptN x f h
    refine ⟨h1, h2, fun op hop => ?_⟩
    rcases inq op hop with q | rfl
    · exact h3 op q
    · intro z
      have z' : b = x := z
      rw [← z', hb] at h2; cases h2
  · rcases inq _ h with q | q
    · exact a.rds x f q
    · cases q
theorem InvB.flushL (a : InvB n gd s L M C) {e b : Int} {w0 : Wd} {F : Mp} (hb : s.buf b = some (e, w0)) (hq : ∀ op ∈ s.queue, op.blk ≠ b) (hno : ∀ op ∈ s.queue, op.env ≠ e) (hF : IsF n gd (R1 e) (setW s.held b w0) F) (hne : ¬ F = L e)
    (hfr : ∀ x v, F x = some v → s.fresh x = true ∧ Ch s L M C e x) :
    InvB n gd { s with queue := s.queue ++ [Op.wr b w0 e] } L M (setE C e F) := by
  obtain ⟨he, o, k, mb⟩ := a.bufM hb
  have r := a.bas.buf b e w0 hb
  have nq : ¬ Qt n gd s L b w0 e := fun h => hne (hF.uniq h)
  have inq : ∀ op, op ∈ s.queue ++ [Op.wr b w0 e] → op ∈ s.queue ∨ op = Op.wr b w0 e := fun op h => (List.mem_append.mp h).imp id List.mem_singleton.mp
  have ch : ∀ f x, Ch { s with queue := s.queue ++ [Op.wr b w0 e] } L M (setE C e F) f x → Ch s L M C f x := fun f x h => by
    rcases h with h | h | ⟨v, h⟩ | ⟨op, h, h1, h2⟩
    · exact .inl h
    · exact .inr (.inl h)
    · by_cases hf : f = e
      · subst hf
        rw [setE_same] at h
        exact (hfr x v h).2
      · rw [setE_ne hf] at h
        exact a.chC h
    · rcases inq op h with q | rfl
      · exact .inr (.inr (.inr ⟨op, q, h1, h2⟩))
      · rw [← h1, ← h2]; exact a.chM mb
  refine ⟨⟨a.bas.held, fun op h => ?_, fun x w f h => ?_, a.bas.buf, a.bas.kept, a.bas.fresh, ?_⟩, a.lf, a.mf, fun f g x hf hg h1 h2 => a.dis f g x hf hg (ch f x h1) (ch g x h2), fun x w f h => ?_, fun f x v h => ?_, a.lfresh,
    fun f x hf h1 h2 => a.clean f x hf (ch f x h1) h2, a.bufs, fun f x v hf h hb' w g hqq => ?_, fun x f h => ?_, fun x f h => ?_⟩
  · rcases inq op h with q | rfl
    · exact a.bas.queue op q
    · exact ⟨he, r.2.1, r.2.2.1⟩
  · rcases inq _ h with q | q
    · exact a.bas.wrs x w f q
    · injection q with e1 e2 e3
      rw [e2]; exact r.2.2.2
  · show ((s.queue ++ [Op.wr b w0 e]).map Op.blk).Nodup
    rw [List.map_append]
    exact nodup_snoc a.bas.qnd fun z => by
      obtain ⟨op, h1, h2⟩ := List.mem_map.mp z
      exact hq op h1 h2
  · rcases inq _ h with q | q
    · have hf : f ≠ e := fun z => hno _ q z
      obtain ⟨h1, h2⟩ := a.qw x w f q
      refine ⟨h1, ?_⟩
      rw [setE_ne hf]
      refine h2.imp (fun z => z) fun ⟨p1, p2, p3, p4⟩ => ⟨p1, p2, p3, fun b' w' h' => ?_⟩
      rcases inq _ h' with q' | q'
      · exact p4 b' w' q'
      · injection q' with e1 e2 e3
        exact absurd e3 hf
    · injection q with e1 e2 e3
      subst e1 e2 e3
      rw [setE_same]
      refine ⟨(a.bufs _ _ _ hb).1, .inr ⟨nq, hF, fun y v hy => (hfr y v hy).1, fun b' w' h' => ?_⟩⟩
      rcases inq _ h' with q' | q'
      · exact absurd rfl (hno _ q')
      · injection q' with e1 e2 e3
  · by_cases hf : f = e
    · subst hf
      exact ⟨b, w0, List.mem_append_right _ (List.mem_singleton.mpr rfl), nq⟩
    · rw [setE_ne hf] at h
      obtain ⟨b', w', h1, h2⟩ := a.cz f x v h
      exact ⟨b', w', List.mem_append_left _ h1, h2⟩
  · rcases inq _ hqq with q | q
    · exact a.nobuf f x v hf h hb' w g q
    · injection q with e1 e2 e3
      have hb2 : s.buf x = none := hb'
      rw [e1, hb] at hb2; cases hb2
  · obtain ⟨h1, h2, h3⟩ := a.keptN x f h
    refine ⟨h1, h2, fun op hop => ?_⟩
    rcases inq op hop with q | rfl
    · exact h3 op q
    · intro z
      have z' : b = x := z
      rw [← z', hb] at h2; cases h2
  · rcases inq _ h with q | q
    · exact a.rds x f q
    · cases q

/-- a write is done: q2 is the queue without it -/
theorem InvB.doW (a : InvB n gd s L M C) (hn4 : 4 ≤ n) {e b : Int} {w0 : Wd} {q2 : List Op} (hop : Op.wr b w0 e ∈ s.queue) (hq2 : ∀ op, op ∈ q2 ↔ op ∈ s.queue ∧ op.blk ≠ b) (hnd : (q2.map Op.blk).Nodup) :
    ∃ L' C', InvB n gd { s with held := setW s.held b w0, queue := q2, fresh := setB s.fresh b true } L' M C' := by
  have he : Env e := (a.bas.queue _ hop).1
  have chb : Ch s L M C e b := chQ hop
  have rb := a.bas.queue _ hop
  have only : ∀ w f, Op.wr b w f ∈ s.queue → w = w0 ∧ f = e := fun w f h => by
    have q := q_uniq a.bas.qnd h hop rfl
    injection q with _ e1 e2
    exact ⟨e1, e2⟩
  have offL : ∀ f x v, Env f → f ≠ e → L f x = some v → x ≠ b := fun f x v hf ne h z => ne (a.dis f e b hf he (z ▸ a.chL h) chb)
  have offC : ∀ f x v, f ≠ e → C f x = some v → x ≠ b := fun f x v ne h z => ne (a.dis f e b (a.envC h) he (z ▸ a.chC h) chb)
  have qt : ∀ x w f, Env f → f ≠ e → (Qt n gd { s with held := setW s.held b w0, queue := q2, fresh := setB s.fresh b true } L x w f ↔ Qt n gd s L x w f) := fun x w f hf ne => by
    constructor
    · intro h
      refine IsF.same h fun y v hy => ?_
      have nb := offL f y v hf ne hy
      by_cases hyx : y = x
      · rw [hyx, setW_same, setW_same]
      · rw [setW_ne hyx, setW_ne hyx]; exact (setW_ne nb).symm
    · intro h
      refine IsF.same h fun y v hy => ?_
      have nb := offL f y v hf ne hy
      by_cases hyx : y = x
      · rw [hyx, setW_same, setW_same]
      · rw [setW_ne hyx, setW_ne hyx]; exact setW_ne nb
  have cc : ∀ x w f, f ≠ e → IsF n gd (R1 f) (setW s.held x w) (C f) → IsF n gd (R1 f) (setW (setW s.held b w0) x w) (C f) := fun x w f ne h => h.same fun y v hy => by
    have nb := offC f y v ne hy
    by_cases hyx : y = x
    · rw [hyx, setW_same, setW_same]
    · rw [setW_ne hyx, setW_ne hyx]; exact setW_ne nb
  have mf' : ∀ f, Env f → IsF n gd (RM { s with held := setW s.held b w0, queue := q2, fresh := setB s.fresh b true } f) (memW { s with held := setW s.held b w0, queue := q2, fresh := setB s.fresh b true }) (M f) := fun f hf => by
    refine (a.mf f hf).same (W' := memW { s with held := setW s.held b w0, queue := q2, fresh := setB s.fresh b true }) fun x v hx => ?_
    show (match s.buf x with | some p => p.2 | none => setW s.held b w0 x) = memW s x
    cases q : s.buf x with
    | some p =>
      unfold memW
      rw [q]
    | none =>
      have nb : x ≠ b := fun z => a.nobuf f x v hf hx q w0 e (z ▸ hop)
      rw [memW_none q]
      exact setW_ne nb
  have fr : ∀ x, s.fresh x = true → setB s.fresh b true x = true := fun x h => by
    by_cases hx : x = b
    · rw [hx]; exact setB_same
    · rw [setB_ne hx]; exact h
  have bas' : Bas n { s with held := setW s.held b w0, queue := q2, fresh := setB s.fresh b true } := by
    refine ⟨fun x h1 h2 => ?_, fun op h => a.bas.queue op ((hq2 op).mp h).1, fun x w f h => a.bas.wrs x w f ((hq2 _).mp h).1, a.bas.buf, a.bas.kept, fun x h => ?_, hnd⟩
    · show Okw (setW s.held b w0 x)
      by_cases hx : x = b
      · rw [hx, setW_same]; exact a.bas.wrs b w0 e hop
      · rw [setW_ne hx]; exact a.bas.held x h1 h2
    · by_cases hx : x = b
      · rw [hx]; exact ⟨rb.2.1, rb.2.2⟩
      · have h : setB s.fresh b true x = true := h
        rw [setB_ne hx] at h
        exact a.bas.fresh x h
  have bufs' : ∀ x f w, s.buf x = some (f, w) → Clean f w ∧ ∃ o k, M f x = some (o, some k) := a.bufs
  have nobuf' : ∀ f x v, Env f → M f x = some v → s.buf x = none → ∀ w g, ¬ Op.wr x w g ∈ q2 := fun f x v hf h hb w g hqq => a.nobuf f x v hf h hb w g ((hq2 _).mp hqq).1
  have keptN' : ∀ x f, s.kept x = some (f, none) → setB s.fresh b true x = false ∧ s.buf x = none ∧ ∀ op ∈ q2, op.blk ≠ x := fun x f h => by
    obtain ⟨h1, h2, h3⟩ := a.keptN x f h
    have nb : x ≠ b := fun z => h3 _ hop z.symm
    exact ⟨(setB_ne nb).trans h1, h2, fun op h => h3 op ((hq2 op).mp h).1⟩
  have rds' : ∀ x f, Op.rd x f ∈ q2 → setB s.fresh b true x = true := fun x f h => fr x (a.rds x f ((hq2 _).mp h).1)
  have cln : ∀ f x, Env f → Ch s L M C f x → setB s.fresh b true x = true → Clean f (setW s.held b w0 x) := fun f x hf h1 h2 => by
    by_cases hx : x = b
    · subst hx
      rw [setW_same, a.dis f e x hf he h1 chb]
      exact (a.qw x w0 e hop).1
    · rw [setB_ne hx] at h2
      rw [setW_ne hx]
      exact a.clean f x hf h1 h2
  obtain ⟨_, alt⟩ := a.qw b w0 e hop
  rcases alt with quiet | ⟨link, lF, lfr, lu⟩
  · -- the forest stays
    have eq' : ∀ x w, Op.wr x w e ∈ s.queue → Qt n gd s L x w e := fun x w h => by
      rcases (a.qw x w e h).2 with z | ⟨z, _, _, z4⟩
      · exact z
      · have zb := z4 b w0 hop
        subst zb
        rw [(only w e h).1]; exact quiet
    have cne : ∀ f x v, C f x = some v → f ≠ e := fun f x v h z => by
      subst z
      obtain ⟨b', w', h1, h2⟩ := a.cz _ x v h
      exact h2 (eq' b' w' h1)
    have ch : ∀ f x, Ch { s with held := setW s.held b w0, queue := q2, fresh := setB s.fresh b true } L M C f x → Ch s L M C f x := fun f x h => by
      rcases h with h | h | h | ⟨op, h, h1, h2⟩
      · exact .inl h
      · exact .inr (.inl h)
      · exact .inr (.inr (.inl h))
      · exact .inr (.inr (.inr ⟨op, ((hq2 op).mp h).1, h1, h2⟩))
    refine ⟨L, C, bas', fun f hf => ?_, mf', fun f g x hf hg h1 h2 => a.dis f g x hf hg (ch f x h1) (ch g x h2), fun x w f h => ?_, fun f x v h => ?_, fun f x v hf h => fr x (a.lfresh f x v hf h), fun f x hf h1 h2 => cln f x hf (ch f x h1) h2, bufs', nobuf', keptN', rds'⟩
    · by_cases hfe : f = e
      · subst hfe; exact quiet
      · exact (a.lf f hf).same fun x v hx => setW_ne (offL f x v hf hfe hx)
    · obtain ⟨h0, hxb⟩ := (hq2 _).mp h
      have hxb : x ≠ b := hxb
      obtain ⟨h1, h2⟩ := a.qw x w f h0
      refine ⟨h1, ?_⟩
      by_cases hfe : f = e
      · subst hfe
        refine .inl ((a.lf f he).loc fun y v hy => ?_)
        by_cases hyx : y = x
        · subst hyx
          have z := (eq' y w h0).kids y
          rw [setW_same] at z ⊢
          exact z
        · rw [setW_ne hyx]
          by_cases hyb : y = b
          · subst hyb
            have z := quiet.kids y
            rw [setW_same] at z
            show Loc n gd (L f) y (setW s.held y w0 y)
            rw [setW_same]
            exact z
          · show Loc n gd (L f) y (setW s.held b w0 y)
            rw [setW_ne hyb]
            exact (a.lf f he).kids y
      · have hf : Env f := (a.bas.queue _ h0).1
        rcases h2 with z | ⟨z1, z2, z3, z4⟩
        · exact .inl ((qt x w f hf hfe).mpr z)
        · exact .inr ⟨fun z => z1 ((qt x w f hf hfe).mp z), cc x w f hfe z2, fun y v hy => fr y (z3 y v hy), fun b' w' h' => z4 b' w' ((hq2 _).mp h').1⟩
    · have hfe := cne f x v h
      obtain ⟨b', w', h1, h2⟩ := a.cz f x v h
      have nb : b' ≠ b := fun z => hfe ((only w' f (z ▸ h1)).2)
      exact ⟨b', w', (hq2 _).mpr ⟨h1, nb⟩, fun z => h2 ((qt b' w' f (a.envC h) hfe).mp z)⟩
  · -- the linking write
    have nomore : ∀ x w, ¬ Op.wr x w e ∈ q2 := fun x w h => by
      obtain ⟨h0, hxb⟩ := (hq2 _).mp h
      exact hxb (lu x w h0)
    have ch : ∀ f x, Ch { s with held := setW s.held b w0, queue := q2, fresh := setB s.fresh b true } (setE L e (C e)) M (setE C e e0) f x → Ch s L M C f x := fun f x h => by
      rcases h with ⟨v, h⟩ | h | ⟨v, h⟩ | ⟨op, h, h1, h2⟩
      · by_cases hfe : f = e
        · subst hfe
          rw [setE_same] at h
          exact a.chC h
        · rw [setE_ne hfe] at h
          exact a.chL h
      · exact .inr (.inl h)
      · by_cases hfe : f = e
        · subst hfe
          rw [setE_same] at h
          cases h
        · rw [setE_ne hfe] at h
          exact a.chC h
      · exact .inr (.inr (.inr ⟨op, ((hq2 op).mp h).1, h1, h2⟩))
    have qt' : ∀ x w f, Env f → f ≠ e → (Qt n gd { s with held := setW s.held b w0, queue := q2, fresh := setB s.fresh b true } (setE L e (C e)) x w f ↔ Qt n gd s L x w f) := fun x w f hf ne => by
      rw [← qt x w f hf ne]
      unfold Qt
      rw [setE_ne ne]
    refine ⟨setE L e (C e), setE C e e0, bas', fun f hf => ?_, mf', fun f g x hf hg h1 h2 => a.dis f g x hf hg (ch f x h1) (ch g x h2), fun x w f h => ?_, fun f x v h => ?_, fun f x v hf h => ?_, fun f x hf h1 h2 => cln f x hf (ch f x h1) h2, bufs', nobuf', keptN', rds'⟩
    · by_cases hfe : f = e
      · subst hfe
        rw [setE_same]; exact lF
      · rw [setE_ne hfe]
        exact (a.lf f hf).same fun x v hx => setW_ne (offL f x v hf hfe hx)
    · obtain ⟨h0, hxb⟩ := (hq2 _).mp h
      have hfe : f ≠ e := fun z => nomore x w (z ▸ h)
      have hf : Env f := (a.bas.queue _ h0).1
      obtain ⟨h1, h2⟩ := a.qw x w f h0
      refine ⟨h1, ?_⟩
      rcases h2 with z | ⟨z1, z2, z3, z4⟩
      · exact .inl ((qt' x w f hf hfe).mpr z)
      · refine .inr ⟨fun z => z1 ((qt' x w f hf hfe).mp z), ?_, fun y v hy => ?_, fun b' w' h' => z4 b' w' ((hq2 _).mp h').1⟩
        · rw [setE_ne hfe]; exact cc x w f hfe z2
        · rw [setE_ne hfe] at hy
          exact fr y (z3 y v hy)
    · have hfe : f ≠ e := fun z => by
        rw [z, setE_same] at h
        cases h
      rw [setE_ne hfe] at h
      obtain ⟨b', w', h1, h2⟩ := a.cz f x v h
      have nb : b' ≠ b := fun z => hfe ((only w' f (z ▸ h1)).2)
      exact ⟨b', w', (hq2 _).mpr ⟨h1, nb⟩, fun z => h2 ((qt' b' w' f (a.envC h) hfe).mp z)⟩
    · by_cases hfe : f = e
      · subst hfe
        rw [setE_same] at h
        exact fr x (lfr x v h)
      · rw [setE_ne hfe] at h
        exact fr x (a.lfresh f x v hf h)

/-- a read is done -/
theorem InvB.doR (a : InvB n gd s L M C) {e b : Int} {q2 : List Op} (hop : Op.rd b e ∈ s.queue) (hq2 : ∀ op, op ∈ q2 ↔ op ∈ s.queue ∧ op.blk ≠ b) (hnd : (q2.map Op.blk).Nodup) : InvB n gd { s with queue := q2 } L M C := by
  have ch : ∀ f x, Ch { s with queue := q2 } L M C f x → Ch s L M C f x := fun f x h => by
    rcases h with h | h | h | ⟨op, h, h1, h2⟩
    · exact .inl h
    · exact .inr (.inl h)
    · exact .inr (.inr (.inl h))
    · exact .inr (.inr (.inr ⟨op, ((hq2 op).mp h).1, h1, h2⟩))
  refine ⟨⟨a.bas.held, fun op h => a.bas.queue op ((hq2 op).mp h).1, fun x w f h => a.bas.wrs x w f ((hq2 _).mp h).1, a.bas.buf, a.bas.kept, a.bas.fresh, hnd⟩, a.lf, a.mf, fun f g x hf hg h1 h2 => a.dis f g x hf hg (ch f x h1) (ch g x h2), fun x w f h => ?_, fun f x v h => ?_, a.lfresh,
    fun f x hf h1 h2 => a.clean f x hf (ch f x h1) h2, a.bufs, fun f x v hf h hb' w g hqq => a.nobuf f x v hf h hb' w g ((hq2 _).mp hqq).1, fun x f h => ?_, fun x f h => a.rds x f ((hq2 _).mp h).1⟩
  · obtain ⟨h1, h2⟩ := a.qw x w f ((hq2 _).mp h).1
    exact ⟨h1, h2.imp (fun z => z) fun ⟨p1, p2, p3, p4⟩ => ⟨p1, p2, p3, fun b' w' h' => p4 b' w' ((hq2 _).mp h').1⟩⟩
  · obtain ⟨b', w', h1, h2⟩ := a.cz f x v h
    refine ⟨b', w', (hq2 _).mpr ⟨h1, fun z => ?_⟩, h2⟩
    have q := q_uniq a.bas.qnd h1 hop z
    cases q
  · obtain ⟨h1, h2, h3⟩ := a.keptN x f h
    exact ⟨h1, h2, fun op hop => h3 op ((hq2 op).mp hop).1⟩
/-- the buffer of a read that is done -/
theorem InvB.gotR (a : InvB n gd s L M C) (hn4 : 4 ≤ n) {e b : Int} {v : Option Int × Option Int} (he : Env e) (hk : ∀ k, s.kept b = some (e, k) → k ≠ none) (hw : ∀ w f, ¬ Op.wr b w f ∈ s.queue) (hfr : s.fresh b = true) (mb : M e b = some v) (hb : s.buf b = none) :
    InvB n gd { s with buf := setO s.buf b (some (e, s.held b)) } L M C := by
  have r := a.mrng hn4 he mb
  have mw : memW { s with buf := setO s.buf b (some (e, s.held b)) } = memW s := funext fun x => by
    show (match setO s.buf b (some (e, s.held b)) x with | some p => p.2 | none => s.held x) = _
    by_cases hx : x = b
    · subst hx
      rw [setO_same, memW_none hb]
    · rw [setO_ne hx]
      rfl
  have old : ∀ x f w, setO s.buf b (some (e, s.held b)) x = some (f, w) → s.buf x = some (f, w) ∨ (x = b ∧ f = e ∧ w = s.held b) := fun x f w h => by
    by_cases hx : x = b
    · rw [hx, setO_same] at h
      injection Option.some.inj h with e1 e2
      exact .inr ⟨hx, e1.symm, e2.symm⟩
    · rw [setO_ne hx] at h; exact .inl h
  refine ⟨⟨a.bas.held, a.bas.queue, a.bas.wrs, fun x f w h => ?_, a.bas.kept, a.bas.fresh, a.bas.qnd⟩, a.lf, fun f hf => by rw [mw]; exact a.mf f hf, a.dis, a.qw, a.cz, a.lfresh, a.clean, fun x f w h => ?_, fun f x v hf h hb' w g hqq => ?_, fun x f h => ?_, a.rds⟩
  · rcases old x f w h with q | ⟨rfl, rfl, rfl⟩
    · exact a.bas.buf x f w q
    · exact ⟨he, r.1, r.2, a.bas.held _ r.1 r.2⟩
  · rcases old x f w h with q | ⟨rfl, rfl, rfl⟩
    · exact a.bufs x f w q
    · refine ⟨a.clean f x he (a.chM mb) hfr, ?_⟩
      obtain ⟨o, k⟩ := v
      cases k with
      | some k => exact ⟨o, k, mb⟩
      | none => exact absurd rfl (hk none (a.mnone he mb))
  · have ne : x ≠ b := fun z => hw w g (z ▸ hqq)
    have hb2 : s.buf x = none := (setO_ne ne).symm.trans hb'
    exact a.nobuf f x v hf h hb2 w g hqq
  · have ne : x ≠ b := fun z => by
      have hk2 : s.kept b = some (f, none) := z ▸ h
      have q := a.keptM hk2
      have ef := a.dis f e b (a.bas.kept _ _ _ hk2).1 he (a.chM q) (a.chM mb)
      exact hk none (ef ▸ hk2) rfl
    obtain ⟨h1, h2, h3⟩ := a.keptN x f h
    exact ⟨h1, (setO_ne ne).trans h2, h3⟩
end
end SH

set_option linter.all false
set_option maxHeartbeats 4000000
namespace SH
section
variable {n : Int} {gd : Int → Bool} {s : St} {L M C : Int → Mp}
/-- a new start: nothing but what lasts -/
theorem InvB.start (hn4 : 4 ≤ n) {W : Int → Wd} {L : Int → Mp} (hL : ∀ e, Env e → IsF n gd (R1 e) W (L e)) (hd : ∀ e f x v v', Env e → Env f → L e x = some v → L f x = some v' → e = f) (ho : ∀ b, 0 ≤ b → b < n → Okw (W b))
    (hc : ∀ e x v, Env e → L e x = some v → Clean e (W x)) (s : St) (h1 : s.held = W) (h2 : s.queue = []) (h3 : s.buf = fun _ => none) (h4 : s.kept = fun _ => none) (h5 : ∀ x, s.fresh x = true ↔ ∃ e v, Env e ∧ L e x = some v) : InvB n gd s L L fun _ => e0 := by
  have rm : ∀ e, RM s e = R1 e := fun e => funext fun b => by
    unfold RM R1
    rw [h4]
  have mw : memW s = W := funext fun b => by
    unfold memW
    rw [h3, h1]
  have ch : ∀ e b, Ch s L L (fun _ => e0) e b → ∃ v, L e b = some v := fun e b h => by
    rcases h with h | h | ⟨v, h⟩ | ⟨op, h, _⟩
    · exact h
    · exact h
    · cases h
    · rw [h2] at h; cases h
  have rng : ∀ e b v, Env e → L e b = some v → 0 ≤ b ∧ b < n := fun e b v he h => by
    obtain ⟨o, k⟩ := v
    rcases (hL e he).rng h with ⟨q, _⟩ | ⟨q1, q2, _⟩
    · have := (R1_iff.mp q).1
      have := he.1; have := he.2; omega
    · omega
  refine ⟨⟨by rw [h1]; exact ho, fun op h => (by rw [h2] at h; cases h), fun b w e h => (by rw [h2] at h; cases h), fun b e w h => (by rw [h3] at h; cases h), fun b e k h => (by rw [h4] at h; cases h), fun b h => ?_, by rw [h2]; exact List.nodup_nil⟩,
    fun e he => by rw [h1]; exact hL e he, fun e he => by rw [rm, mw]; exact hL e he, fun e f b he hf p q => ?_, fun b w e h => (by rw [h2] at h; cases h), fun e x v h => (by cases h), fun e b v he h => (h5 b).mpr ⟨e, v, he, h⟩, fun e b he h _ => ?_,
    fun b e w h => (by rw [h3] at h; cases h), fun e b v he h _ w f hq => (by rw [h2] at hq; cases hq), fun b e h => (by rw [h4] at h; cases h), fun b e h => (by rw [h2] at h; cases h)⟩
  · obtain ⟨e, v, he, h⟩ := (h5 b).mp h
    exact rng e b v he h
  · obtain ⟨v, p⟩ := ch e b p
    obtain ⟨v', q⟩ := ch f b q
    exact hd e f b v v' he hf p q
  · obtain ⟨v, p⟩ := ch e b h
    rw [h1]; exact hc e b v he p
theorem start_zer (hn4 : 4 ≤ n) {W : Int → Wd} (hW : ∀ b, 0 ≤ b → b < n → W b = zer) : (∀ e, Env e → IsF n gd (R1 e) W (put e0 e (none, some 1))) := fun e he => by
  refine ⟨fun b k h => ?_, fun b k h => ?_, fun x o k h => ?_, fun c p ck h => ?_, fun _ => 0, 0, fun _ => Nat.le_refl _, fun c p ck h => ?_⟩
  · obtain ⟨rfl, rfl⟩ := R1_iff.mp h
    exact put_same
  · by_cases hb : b = e
    · rw [hb, put_same] at h
      injection Option.some.inj h with _ q
      exact R1_iff.mpr ⟨hb, q.symm⟩
    · rw [put_ne hb] at h; cases h
  · by_cases hb : x = e
    · rw [hb, put_same] at h
      injection Option.some.inj h with _ q
      subst q
      refine ⟨[], ?_, fun c ck => ⟨fun hm => (by cases hm), fun hc => ?_⟩⟩
      · rw [hW x (by rw [hb]; exact he.1) (by have := he.2; omega)]
        rfl
      · by_cases hc' : c = e
        · rw [hc', put_same] at hc
          injection Option.some.inj hc with q _
          cases q
        · rw [put_ne hc'] at hc; cases hc
    · rw [put_ne hb] at h; cases h
  · by_cases hb : c = e
    · rw [hb, put_same] at h
      injection Option.some.inj h with q _
      cases q
    · rw [put_ne hb] at h; cases h
  · by_cases hb : c = e
    · rw [hb, put_same] at h
      injection Option.some.inj h with q _
      cases q
    · rw [put_ne hb] at h; cases h
theorem InvB.zero (hn4 : 4 ≤ n) {W : Int → Wd} (hW : ∀ b, 0 ≤ b → b < n → W b = zer) (s : St) (h1 : s.held = W) (h2 : s.queue = []) (h3 : s.buf = fun _ => none) (h4 : s.kept = fun _ => none)
    (h5 : ∀ x, s.fresh x = true ↔ ∃ e v, Env e ∧ put e0 e (none, some 1) x = some v) : InvB n gd s (fun e => put e0 e (none, some 1)) (fun e => put e0 e (none, some 1)) fun _ => e0 := by
  have at_ : ∀ (e x : Int) (v : Option Int × Option Int), put e0 e (none, some 1) x = some v → x = e := fun e x v h => by
    by_cases hx : x = e
    · exact hx
    · rw [put_ne hx] at h; cases h
  refine InvB.start hn4 (start_zer hn4 hW) (fun e f x v v' _ _ p q => (at_ e x v p).symm.trans (at_ f x v' q)) (fun b p q => by rw [hW b p q]; exact okw_zer) (fun e x v he h => ?_) s h1 h2 h3 h4 h5
  rw [at_ e x v h, hW e he.1 (by have := he.2; omega)]
  exact clean_zer
/-- behind a cut -/
theorem InvB.restart (a : InvB n gd s L M C) (hn4 : 4 ≤ n) (W : Int → Wd) (hh : ∀ x, 0 ≤ x → x < n → W x = s.held x ∨ ∃ w e, Op.wr x w e ∈ s.queue ∧ W x = w) :
    ∃ L', (∀ e, Env e → IsF n gd (R1 e) W (L' e)) ∧ ∀ s' : St, s'.held = W → s'.queue = [] → (s'.buf = fun _ => none) → (s'.kept = fun _ => none) → (∀ x, s'.fresh x = true ↔ ∃ e v, Env e ∧ L' e x = some v) → InvB n gd s' L' L' fun _ => e0 := by
  classical
  have one : ∀ e, Env e → ∃ G, IsF n gd (R1 e) W G ∧ ∀ x v, G x = some v → Ch s L M C e x ∧ s.fresh x = true := fun e he => by
    by_cases link : ∃ b w, Op.wr b w e ∈ s.queue ∧ ¬ Qt n gd s L b w e ∧ W b = w
    · obtain ⟨b, w, hq, nq, hb⟩ := link
      obtain ⟨_, alt⟩ := a.qw b w e hq
      obtain ⟨_, lF, lfr, lu⟩ := alt.resolve_left nq
      refine ⟨C e, lF.same fun x v hx => ?_, fun x v hx => ⟨a.chC hx, lfr x v hx⟩⟩
      by_cases hxb : x = b
      · rw [hxb, setW_same]; exact hb
      · rw [setW_ne hxb]
        have rx : 0 ≤ x ∧ x < n := by
          obtain ⟨o, k⟩ := v
          rcases lF.rng hx with ⟨q, _⟩ | ⟨q1, q2, _⟩
          · have := (R1_iff.mp q).1
            have := he.1; have := he.2; omega
          · omega
        rcases hh x rx.1 rx.2 with z | ⟨w', e', h1, h2⟩
        · exact z
        · have ee : e' = e := a.dis e' e x (a.bas.queue _ h1).1 he (chQ h1) (a.chC hx)
          subst ee
          exact absurd (lu x w' h1) hxb
    · refine ⟨L e, (a.lf e he).loc fun x v hx => ?_, fun x v hx => ⟨a.chL hx, a.lfresh e x v he hx⟩⟩
      have rx := a.lrng hn4 he hx
      rcases hh x rx.1 rx.2.1 with z | ⟨w', e', h1, h2⟩
      · rw [z]; exact (a.lf e he).kids x
      · have ee : e' = e := a.dis e' e x (a.bas.queue _ h1).1 he (chQ h1) (a.chL hx)
        subst ee
        have q : Qt n gd s L x w' e' := by
          by_cases q : Qt n gd s L x w' e'
          · exact q
          · exact absurd ⟨x, w', h1, q, h2⟩ link
        have z := q.kids x
        rw [setW_same] at z
        rw [h2]; exact z
  obtain ⟨L', hL'⟩ : ∃ L' : Int → Mp, ∀ e, Env e → IsF n gd (R1 e) W (L' e) ∧ ∀ x v, L' e x = some v → Ch s L M C e x ∧ s.fresh x = true :=
    ⟨fun e => if h : Env e then (one e h).choose else e0, fun e he => by
      have q : (fun e => if h : Env e then (one e h).choose else e0) e = (one e he).choose := dif_pos he
      rw [q]
      exact (one e he).choose_spec⟩
  refine ⟨L', fun e he => (hL' e he).1, fun s' h1 h2 h3 h4 h5 => ?_⟩
  refine InvB.start hn4 (fun e he => (hL' e he).1) (fun e f x v v' he hf p q => a.dis e f x he hf ((hL' e he).2 x v p).1 ((hL' f hf).2 x v' q).1) (fun b p q => ?_) (fun e x v he h => ?_) s' h1 h2 h3 h4 h5
  · rcases hh b p q with z | ⟨w, e, q1, q2⟩
    · rw [z]; exact a.bas.held b p q
    · rw [q2]; exact a.bas.wrs b w e q1
  · obtain ⟨c1, c2⟩ := (hL' e he).2 x v h
    have rx : 0 ≤ x ∧ x < n := a.bas.fresh x c2
    rcases hh x rx.1 rx.2 with z | ⟨w', e', q1, q2⟩
    · rw [z]; exact a.clean e x he c1 c2
    · have ee : e' = e := a.dis e' e x (a.bas.queue _ q1).1 he (chQ q1) c1
      subst ee
      rw [q2]; exact (a.qw x w' e' q1).1

/-- one or two blocks get new words -/
theorem InvB.alter (a : InvB n gd s L M C) {e : Int} (he : Env e) {rows : List (Int × Wd)} (hr : ∀ p w, (p, w) ∈ rows → (∃ u, s.buf p = some (e, u)) ∧ Okw w ∧ Clean e w) (hnd : ∀ p w w', (p, w) ∈ rows → (p, w') ∈ rows → w = w')
    {bf : Int → Option Int} (hbf : ∀ c k, bf c = some k ↔ ∃ p w, (p, w) ∈ rows ∧ M e c = some (some p, some k))
    {bh : Int → Option (Int × Int)} (hbh : ∀ c p k, bh c = some (p, k) ↔ ∃ w, (p, w) ∈ rows ∧ ∃ o t cs, M e p = some (o, some t) ∧ own n gd t w = some cs ∧ (c, k) ∈ cs)
    (hown : ∀ p w, (p, w) ∈ rows → ∀ o t, M e p = some (o, some t) → ∃ cs, own n gd t w = some cs)
    (ty : ∀ c k p k', bf c = some k → bh c = some (p, k') → k = k') (tk : ∀ c p k, bh c = some (p, k) → bf c = none → s.kept c = some (e, some k))
    {A : Int → Prop} (hA1 : ∀ p w, (p, w) ∈ rows → A p) (hA2 : ∀ c p k, A c → M e c = some (some p, k) → A p) (hA3 : ∀ c p k, bh c = some (p, k) → (∀ k', M e c ≠ some (some p, some k')) → ¬ A c)
    (gv : ∀ c k, bf c = some k → bh c = none → (∀ x o k', M e x = some (o, k') → o ≠ some c) ∧ ∀ p w, (p, w) ∈ rows → p ≠ c)
    {buf' : Int → Option (Int × Wd)} (hb1 : ∀ p w, (p, w) ∈ rows → buf' p = some (e, w)) (hb2 : ∀ x, (∀ p w, (p, w) ∈ rows → p ≠ x) → bf x ≠ none → bh x = none → buf' x = none) (hb3 : ∀ x, (∀ p w, (p, w) ∈ rows → p ≠ x) → (bf x = none ∨ bh x ≠ none) → buf' x = s.buf x)
    {kept' : Int → Option (Int × Option Int)} (hk1 : ∀ x, bh x ≠ none → bf x = none → kept' x = none) (hk2 : ∀ x, (bh x = none ∨ bf x ≠ none) → kept' x = s.kept x) :
    ∃ M', InvB n gd { s with buf := buf', kept := kept' } L M' C := by
  classical
  have F := a.mf e he
  have rowM : ∀ p w, (p, w) ∈ rows → ∃ o t, M e p = some (o, some t) := fun p w h => by
    obtain ⟨⟨u, hu⟩, _⟩ := hr p w h
    exact (a.bufM hu).2
  have bhrow : ∀ c p k, bh c = some (p, k) → ∃ w, (p, w) ∈ rows := fun c p k h => by
    obtain ⟨w, h1, _⟩ := (hbh c p k).mp h
    exact ⟨w, h1⟩
  have bh4 : ∀ c p k, bh c = some (p, k) → 4 ≤ c ∧ c < n := fun c p k h => by
    obtain ⟨w, _, o, t, cs, _, h3, h4⟩ := (hbh c p k).mp h
    have q := (own_fnd h3).2 _ h4
    exact ⟨q.1, q.2.1⟩
  have gk : ∀ c p k, bh c = some (p, k) → ∃ o, M e c = some (o, some k) := fun c p k h => by
    cases q : bf c with
    | none => exact ⟨none, a.keptM (tk c p k h q)⟩
    | some k0 =>
      obtain ⟨p', w', _, h2⟩ := (hbf c k0).mp q
      rw [← ty c k0 p k q h]
      exact ⟨_, h2⟩
  let G : Mp := fun x => match bh x with
    | some (p, k) => some (some p, some k)
    | none => if bf x = none then M e x else none
  have gB : ∀ x p k, bh x = some (p, k) → G x = some (some p, some k) := fun x p k h => by
    show (match bh x with | some (p, k) => some (some p, some k) | none => if bf x = none then M e x else none) = _
    rw [h]
  have gN : ∀ x, bh x = none → bf x = none → G x = M e x := fun x h h' => by
    show (match bh x with | some (p, k) => some (some p, some k) | none => if bf x = none then M e x else none) = _
    rw [h]
    exact if_pos h'
  have gR : ∀ x, bh x = none → bf x ≠ none → G x = none := fun x h h' => by
    show (match bh x with | some (p, k) => some (some p, some k) | none => if bf x = none then M e x else none) = _
    rw [h]
    exact if_neg h'
  -- G at x, by what stood there
  have gcase : ∀ x v, G x = some v → (∃ p k, bh x = some (p, k) ∧ v = (some p, some k)) ∨ (bh x = none ∧ bf x = none ∧ M e x = some v) := fun x v h => by
    cases q : bh x with
    | some pk =>
      obtain ⟨p, k⟩ := pk
      rw [gB x p k q] at h
      exact .inl ⟨p, k, rfl, (Option.some.inj h).symm⟩
    | none =>
      by_cases q' : bf x = none
      · rw [gN x q q'] at h
        exact .inr ⟨rfl, q', h⟩
      · rw [gR x q q'] at h; cases h
  have gsub : ∀ x v, G x = some v → ∃ o, M e x = some (o, v.2) := fun x v h => by
    rcases gcase x v h with ⟨p, k, h1, rfl⟩ | ⟨_, _, h3⟩
    · exact gk x p k h1
    · exact ⟨v.1, h3⟩
  have rowBf : ∀ p w, (p, w) ∈ rows → bh p = none → bf p = none := fun p w h hb => by
    cases q : bf p with
    | none => rfl
    | some k => exact absurd rfl ((gv p k q hb).2 p w h)
  have rowG : ∀ p w o t, (p, w) ∈ rows → M e p = some (o, some t) → ∃ o', G p = some (o', some t) := fun p w o t h hm => by
    cases q : bh p with
    | some pk =>
      obtain ⟨p', k⟩ := pk
      obtain ⟨o2, h2⟩ := gk p p' k q
      rw [hm] at h2
      injection Option.some.inj h2 with _ e2
      exact ⟨some p', by rw [gB p p' k q, e2]⟩
    | none => exact ⟨o, by rw [gN p q (rowBf p w h q)]; exact hm⟩
  have mwRow : ∀ p w, (p, w) ∈ rows → memW { s with buf := buf', kept := kept' } p = w := fun p w h => by
    show (match buf' p with | some p => p.2 | none => s.held p) = w
    rw [hb1 p w h]
  have mwOff : ∀ x, (∀ p w, (p, w) ∈ rows → p ≠ x) → (bf x = none ∨ bh x ≠ none) → memW { s with buf := buf', kept := kept' } x = memW s x := fun x h1 h2 => by
    show (match buf' x with | some p => p.2 | none => s.held x) = _
    rw [hb3 x h1 h2]
    rfl
  have bfM : ∀ x, bf x ≠ none → ∃ v, M e x = some v := fun x h => by
    cases q : bf x with
    | none => exact absurd q h
    | some k =>
      obtain ⟨_, _, _, h2⟩ := (hbf x k).mp q
      exact ⟨_, h2⟩
  have newF : IsF n gd (RM { s with buf := buf', kept := kept' } e) (memW { s with buf := buf', kept := kept' }) G := by
    have eroot : bh e = none ∧ bf e = none := by
      constructor
      · cases q : bh e with
        | none => rfl
        | some pk =>
          have := bh4 e pk.1 pk.2 q
          have := he.2; omega
      · cases q : bf e with
        | none => rfl
        | some k =>
          obtain ⟨_, _, _, h2⟩ := (hbf e k).mp q
          rw [(a.roots he).2] at h2
          injection Option.some.inj h2 with e1 _
          cases e1
    refine ⟨fun b k h => ?_, fun b k h => ?_, fun x o k hx => ?_, fun c p ck hc => ?_, ?_⟩
    · by_cases hb : b = e
      · subst hb
        rw [RM_root] at h
        rw [gN b eroot.1 eroot.2, (a.roots he).2, ← Option.some.inj h]
      · have hk := (RM_iff (s := { s with buf := buf', kept := kept' }) hb).mp h
        have hk : kept' b = some (e, k) := hk
        have old : s.kept b = some (e, k) ∧ bh b = none ∧ bf b = none := by
          by_cases hz : bh b = none ∨ bf b ≠ none
          · rw [hk2 b hz] at hk
            have hm := a.keptM hk
            have nbf : bf b = none := by
              cases q : bf b with
              | none => rfl
              | some k' =>
                obtain ⟨_, _, _, h2⟩ := (hbf b k').mp q
                rw [hm] at h2
                injection Option.some.inj h2 with e1 _
                cases e1
            exact ⟨hk, hz.resolve_right fun z => z nbf, nbf⟩
          · have hz1 : bh b ≠ none := fun z => hz (.inl z)
            have hz2 : bf b = none := by
              by_cases z : bf b = none
              · exact z
              · exact absurd (.inr z) hz
            rw [hk1 b hz1 hz2] at hk
            cases hk
        rw [gN b old.2.1 old.2.2]
        exact a.keptM old.1
    · rcases gcase b _ h with ⟨p, k', _, e1⟩ | ⟨h1, h2, h3⟩
      · injection e1 with e2 _
        cases e2
      · have hr0 := F.rootOf b k h3
        by_cases hb : b = e
        · subst hb
          rw [RM_root] at hr0 ⊢
          exact hr0
        · refine (RM_iff (s := { s with buf := buf', kept := kept' }) hb).mpr ?_
          show kept' b = some (e, k)
          rw [hk2 b (.inl h1)]
          exact (RM_iff hb).mp hr0
    · by_cases row : ∃ w, (x, w) ∈ rows
      · obtain ⟨w, hw⟩ := row
        obtain ⟨o0, t, hm⟩ := rowM x w hw
        obtain ⟨o', hg⟩ := rowG x w o0 t hw hm
        rw [hx] at hg
        injection Option.some.inj hg with _ ek
        subst ek
        obtain ⟨cs, hcs⟩ := hown x w hw o0 t hm
        refine ⟨cs, by rw [mwRow x w hw]; exact hcs, fun c ck => ⟨fun hmem => gB c x ck ((hbh c x ck).mpr ⟨w, hw, o0, t, cs, hm, hcs, hmem⟩), fun hc => ?_⟩⟩
        rcases gcase c _ hc with ⟨p, k', h1, e1⟩ | ⟨h1, h2, h3⟩
        · injection e1 with e2 e3
          have e2 := Option.some.inj e2
          have e3 := Option.some.inj e3
          subst e2 e3
          obtain ⟨w', hw', o1, t1, cs1, hm1, hcs1, hmem⟩ := (hbh c x ck).mp h1
          rw [hm] at hm1
          injection Option.some.inj hm1 with _ et
          have et := Option.some.inj et
          subst et
          rw [hnd x w w' hw hw'] at hcs
          rw [hcs] at hcs1
          rw [Option.some.inj hcs1]; exact hmem
        · have z := (hbf c ck).mpr ⟨x, w, hw, h3⟩
          rw [h2] at z; cases z
      · have off : ∀ p w, (p, w) ∈ rows → p ≠ x := fun p w h z => row ⟨w, z ▸ h⟩
        have keep : bf x = none ∨ bh x ≠ none := by
          rcases gcase x _ hx with ⟨p, k', h1, _⟩ | ⟨_, h2, _⟩
          · exact .inr (by rw [h1]; exact fun z => by cases z)
          · exact .inl h2
        obtain ⟨ox, hmx⟩ := gsub x _ hx
        obtain ⟨cs, e1, e2⟩ := F.kids x ox k hmx
        refine ⟨cs, by rw [mwOff x off keep]; exact e1, fun c ck => ?_⟩
        rw [e2 c ck]
        constructor
        · intro hc
          have nbf : bf c = none := by
            cases q : bf c with
            | none => rfl
            | some k0 =>
              obtain ⟨p, w, hp, h2⟩ := (hbf c k0).mp q
              rw [hc] at h2
              injection Option.some.inj h2 with e3 _
              exact absurd (Option.some.inj e3).symm (off p w hp)
          have nbh : bh c = none := by
            cases q : bh c with
            | none => rfl
            | some pk =>
              have z := a.keptM (tk c pk.1 pk.2 q nbf)
              rw [hc] at z
              injection Option.some.inj z with e3 _
              cases e3
          rw [gN c nbh nbf]; exact hc
        · intro hc
          rcases gcase c _ hc with ⟨p, k', h1, e3⟩ | ⟨h1, h2, h3⟩
          · injection e3 with e4 _
            obtain ⟨w, hw⟩ := bhrow c p k' h1
            exact absurd (Option.some.inj e4).symm (off p w hw)
          · exact h3
    · have rowIn : ∀ p w, (p, w) ∈ rows → ∃ v, G p = some v := fun p w h => by
        obtain ⟨o, t, hm⟩ := rowM p w h
        obtain ⟨o', h'⟩ := rowG p w o t h hm
        exact ⟨_, h'⟩
      rcases gcase c _ hc with ⟨p', k', h1, e1⟩ | ⟨h1, h2, h3⟩
      · injection e1 with e2 e3
        have e2 := Option.some.inj e2
        subst e2
        obtain ⟨w, hw⟩ := bhrow c p k' h1
        exact ⟨rowIn p w hw, k', e3⟩
      · obtain ⟨⟨v, hp⟩, k', ek⟩ := F.par c p ck h3
        refine ⟨?_, k', ek⟩
        cases q : bh p with
        | some pk => exact ⟨_, gB p pk.1 pk.2 q⟩
        | none =>
          cases q' : bf p with
          | none => exact ⟨v, by rw [gN p q q']; exact hp⟩
          | some k0 => exact absurd rfl ((gv p k0 q' q).1 c (some p) ck h3)
    · obtain ⟨r, B, hB, hrk⟩ := F.rank
      refine ⟨fun x => if A x then r x else B + 1 + r x, B + 1 + B, fun x => ?_, fun c p ck hc => ?_⟩
      · show (if A x then r x else B + 1 + r x) ≤ B + 1 + B
        have := hB x
        split <;> omega
      · show (if A p then r p else B + 1 + r p) < (if A c then r c else B + 1 + r c)
        have hBp := hB p
        rcases gcase c _ hc with ⟨p', k', h1, e1⟩ | ⟨h1, h2, h3⟩
        · injection e1 with e2 e3
          have e2 := Option.some.inj e2
          subst e2
          obtain ⟨w, hw⟩ := bhrow c p k' h1
          rw [if_pos (hA1 p w hw)]
          by_cases com : ∃ k', M e c = some (some p, some k')
          · obtain ⟨k2, hm⟩ := com
            have := hrk _ _ _ hm
            split <;> omega
          · have nA := hA3 c p k' h1 fun k2 z => com ⟨k2, z⟩
            rw [if_neg nA]
            omega
        · have := hrk _ _ _ h3
          by_cases hAc : A c
          · rw [if_pos hAc, if_pos (hA2 c p ck hAc h3)]
            exact this
          · rw [if_neg hAc]
            split <;> omega
  have ch : ∀ f x, Ch { s with buf := buf', kept := kept' } L (setE M e G) C f x → Ch s L M C f x := fun f x h => by
    rcases h with h | ⟨v, h⟩ | h | h
    · exact .inl h
    · by_cases hf : f = e
      · subst hf
        rw [setE_same] at h
        obtain ⟨o, h2⟩ := gsub x v h
        exact a.chM h2
      · rw [setE_ne hf] at h
        exact a.chM h
    · exact .inr (.inr (.inl h))
    · exact .inr (.inr (.inr h))
  have offF : ∀ f x v, Env f → f ≠ e → M f x = some v → (∀ p w, (p, w) ∈ rows → p ≠ x) ∧ bf x = none := fun f x v hf ne h => by
    refine ⟨fun p w hp z => ?_, ?_⟩
    · obtain ⟨o, t, hm⟩ := rowM p w hp
      exact ne (a.dis f e x hf he (a.chM h) (z ▸ a.chM hm))
    · cases q : bf x with
      | none => rfl
      | some k0 =>
        obtain ⟨_, _, _, h2⟩ := (hbf x k0).mp q
        exact absurd (a.dis f e x hf he (a.chM h) (a.chM h2)) ne
  have keptOld : ∀ x f k, kept' x = some (f, k) → s.kept x = some (f, k) := fun x f k h => by
    by_cases hz : bh x = none ∨ bf x ≠ none
    · rw [hk2 x hz] at h; exact h
    · have hz1 : bh x ≠ none := fun z => hz (.inl z)
      have hz2 : bf x = none := by
        by_cases z : bf x = none
        · exact z
        · exact absurd (.inr z) hz
      rw [hk1 x hz1 hz2] at h
      cases h
  have bufOld : ∀ x f w, buf' x = some (f, w) → ((x, w) ∈ rows ∧ f = e) ∨ ((∀ p w, (p, w) ∈ rows → p ≠ x) ∧ (bf x = none ∨ bh x ≠ none) ∧ s.buf x = some (f, w)) := fun x f w h => by
    by_cases row : ∃ w, (x, w) ∈ rows
    · obtain ⟨w', hw⟩ := row
      rw [hb1 x w' hw] at h
      injection Option.some.inj h with e1 e2
      subst e1 e2
      exact .inl ⟨hw, rfl⟩
    · have off : ∀ p w, (p, w) ∈ rows → p ≠ x := fun p w h z => row ⟨w, z ▸ h⟩
      by_cases hz : bf x = none ∨ bh x ≠ none
      · rw [hb3 x off hz] at h
        exact .inr ⟨off, hz, h⟩
      · have hz1 : bf x ≠ none := fun z => hz (.inl z)
        have hz2 : bh x = none := by
          by_cases z : bh x = none
          · exact z
          · exact absurd (.inr z) hz
        rw [hb2 x off hz1 hz2] at h
        cases h
  refine ⟨setE M e G, ⟨a.bas.held, a.bas.queue, a.bas.wrs, fun x f w h => ?_, fun x f k h => a.bas.kept x f k (keptOld x f k h), a.bas.fresh, a.bas.qnd⟩, a.lf, fun f hf => ?_, fun f g x hf hg h1 h2 => a.dis f g x hf hg (ch f x h1) (ch g x h2), a.qw, a.cz, a.lfresh,
    fun f x hf h1 h2 => a.clean f x hf (ch f x h1) h2, fun x f w h => ?_, fun f x v hf h hb w g hqq => ?_, fun x f h => ?_, a.rds⟩
  · rcases bufOld x f w h with ⟨h1, rfl⟩ | ⟨_, _, h3⟩
    · obtain ⟨⟨u, hu⟩, hok, _⟩ := hr x w h1
      have q := a.bas.buf x _ u hu
      exact ⟨q.1, q.2.1, q.2.2.1, hok⟩
    · exact a.bas.buf x f w h3
  · by_cases hfe : f = e
    · subst hfe
      rw [setE_same]; exact newF
    · rw [setE_ne hfe]
      refine ((a.mf f hf).same fun x v hx => ?_).roots fun x => ?_
      · obtain ⟨h1, h2⟩ := offF f x v hf hfe hx
        exact mwOff x h1 (.inl h2)
      · show (if x = f then some (some 1) else match kept' x with | some (g, k) => if g = f then some k else none | none => none) = RM s f x
        unfold RM
        by_cases hz : bh x = none ∨ bf x ≠ none
        · rw [hk2 x hz] <;> rfl
        · have hz1 : bh x ≠ none := fun z => hz (.inl z)
          have hz2 : bf x = none := by
            by_cases z : bf x = none
            · exact z
            · exact absurd (.inr z) hz
          rw [hk1 x hz1 hz2]
          cases q : bh x with
          | none => exact absurd q hz1
          | some pk =>
            rw [tk x pk.1 pk.2 q hz2]
            show (if x = f then some (some 1) else none) = (if x = f then some (some 1) else (if e = f then some (some pk.2) else none))
            rw [if_neg (show ¬ e = f from fun z => hfe z.symm)]
  · rcases bufOld x f w h with ⟨h1, rfl⟩ | ⟨off, hz, h3⟩
    · obtain ⟨_, _, hcl⟩ := hr x w h1
      obtain ⟨o, t, hm⟩ := rowM x w h1
      obtain ⟨o', hg⟩ := rowG x w o t h1 hm
      exact ⟨hcl, o', t, by rw [setE_same]; exact hg⟩
    · obtain ⟨h4, o, k, h5⟩ := a.bufs x f w h3
      refine ⟨h4, ?_⟩
      by_cases hfe : f = e
      · subst hfe
        rw [setE_same]
        cases q : bh x with
        | some pk => exact ⟨some pk.1, pk.2, gB x pk.1 pk.2 q⟩
        | none => exact ⟨o, k, by rw [gN x q (hz.resolve_right fun z => z q)]; exact h5⟩
      · rw [setE_ne hfe]
        exact ⟨o, k, h5⟩
  · have hb : buf' x = none := hb
    have off : ∀ p w, (p, w) ∈ rows → p ≠ x := fun p w h z => by
      rw [← z, hb1 p w h] at hb; cases hb
    by_cases hfe : f = e
    · subst hfe
      rw [setE_same] at h
      have keep : bf x = none ∨ bh x ≠ none := by
        rcases gcase x _ h with ⟨p, k', h1, _⟩ | ⟨_, h2, _⟩
        · exact .inr (by rw [h1]; exact fun z => by cases z)
        · exact .inl h2
      rw [hb3 x off keep] at hb
      obtain ⟨o, h2⟩ := gsub x v h
      exact a.nobuf f x _ hf h2 hb w g hqq
    · rw [setE_ne hfe] at h
      obtain ⟨_, h2⟩ := offF f x v hf hfe h
      rw [hb3 x off (.inl h2)] at hb
      exact a.nobuf f x v hf h hb w g hqq
  · have hk := keptOld x f none h
    obtain ⟨h1, h2, h3⟩ := a.keptN x f hk
    refine ⟨h1, ?_, h3⟩
    show buf' x = none
    cases q : buf' x with
    | none => rfl
    | some fw =>
      rcases bufOld x fw.1 fw.2 q with ⟨h4, _⟩ | ⟨_, _, h4⟩
      · obtain ⟨⟨u, hu⟩, _⟩ := hr x _ h4
        rw [h2] at hu; cases hu
      · rw [h2] at h4; cases h4
end
end SH

set_option Elab.async false
set_option linter.all false
set_option maxRecDepth 100000
set_option maxHeartbeats 4000000
namespace SH
open PySem PySem.Spec PyProof.Rows L2
section
variable {X : Cx} {pos : Pos} {es : List Expr} {t : TA}
/-- a new tuple whose own object is known (it has no dict) -/
def tTupF (t : TA) : TE := fun σ H Q => t σ H fun xs H1 => xs.length ≤ sizeLine ∧ ∀ p o, H1 p = none → o.dict = none → Q (.ref p) (upd H1 p (.frz o (.tup xs)))
theorem pe_tupF {kk} (h : PA X es t) : PE X (.Tuple es kk pos) (tTupF t) := by
  refine ⟨fun pn sh σ H Q I hq => ?_⟩
  refine wpAny_Tuple_spliced (thn (h.run pos pn sh σ H _ I hq) ?_)
  rintro us s1 ⟨xs, H1, I1, r, z, q⟩
  refine ⟨by rw [← r.length]; exact z, ?_⟩
  have hf : H1 s1.heap.objs.size = none := I1.hok.fresh (Nat.le_refl _)
  have here := Heap.get?_push_size (h := s1.heap) (o := { cls := .type "tuple", data := .seq us.toArray }) rfl
  have at_ : ∀ H2, ObjOk X.prog X.w H2 (s1.heap.push { cls := .type "tuple", data := .seq us.toArray }) s1.heap.objs.size (.frz { cls := .type "tuple", data := .seq us.toArray } (.tup xs)) := fun _ => ⟨here, z, us, r, ⟨_, here, rfl, _, rfl⟩⟩
  exact ⟨.ref _, _, I1.laid (t' := s1.toks) (fun b u e => Heap.get?_push_of_some _ e) (Nat.le_refl _) (at_ _), rfl, q _ _ hf rfl⟩
theorem call_tupleF : CallR X (.type "tuple") (fun xs H Q => ∃ p ys, xs = [.ref p] ∧ SqL X.K H p ys ∧ ∀ l o, H l = none → o.dict = none → Q (.ref l) (upd H l (.frz o (.tup ys)))) := by
  intro pn sh σ H xs us Q I r ⟨p, ys, ex, hq, q⟩
  subst ex
  obtain ⟨u, eu, rx⟩ := vals1 r
  subst eu
  cases rx
  obtain ⟨its, rv, pl, hz⟩ := I.list hq
  have hlen := rv.length
  refine call_tuple_list pl.isList (fun h2 kp => ?_) (by simp only [List.size_toArray] <;> omega)
  have I1 : Inv X pn σ H { sh with heap := h2 } := I.kept (t' := sh.toks) kp
  have here := Heap.get?_push_size (h := h2) (o := { cls := .type "tuple", data := .seq its.toArray }) rfl
  have at_ : ∀ H2, ObjOk X.prog X.w H2 (h2.push { cls := .type "tuple", data := .seq its.toArray }) h2.objs.size (.frz { cls := .type "tuple", data := .seq its.toArray } (.tup ys)) := fun _ => ⟨here, hz, its, rv, ⟨_, here, rfl, _, rfl⟩⟩
  exact ⟨.ref _, _, I1.laid (t' := sh.toks) (fun b o e => Heap.get?_push_of_some _ e) (Nat.le_refl _) (at_ _), rfl, q _ _ (I1.hok.fresh (Nat.le_refl _)) rfl⟩
theorem pairs_split {h : Heap} : ∀ (r : List (Key × Value)) (bs : List Addr), (∀ (j : Nat) (p : Key × Value), r[j]? = some p → ∃ (b : Addr) (u : Value), bs[j]? = some b ∧ IsTup h b #[u, p.2] ∧ keyIs p.1 u = true) →
    ∃ qs : List (Value × Value), qs.length = r.length ∧ ∀ (j : Nat) k v, qs[j]? = some (k, v) → (∃ b, bs[j]? = some b ∧ IsTup h b #[k, v]) ∧ ∃ kk, r[j]? = some (kk, v) ∧ keyIs kk k = true
  | [], bs, _ => ⟨[], rfl, fun j k v e => by simp at e⟩
  | p :: r, [], H => by
    obtain ⟨b, _, e, _⟩ := H 0 p rfl
    simp at e
  | p :: r, b :: bs, H => by
    obtain ⟨b', u, e1, e2, e3⟩ := H 0 p rfl
    have eb : b = b' := Option.some.inj e1
    subst eb
    obtain ⟨qs, l, z⟩ := pairs_split r bs fun j p' e => by simpa using H (j + 1) p' (by simpa using e)
    refine ⟨(u, p.2) :: qs, by rw [List.length_cons, List.length_cons, l], fun j k v e => ?_⟩
    cases j with
    | zero =>
      have e' : (u, p.2) = (k, v) := Option.some.inj e
      injection e' with e4 e5
      subst e4 e5
      exact ⟨⟨b, rfl, e2⟩, p.1, rfl, e3⟩
    | succ j => simpa using z j k v (by simpa using e)
/-- dict(t) of such a tuple of pairs -/
theorem call_dictF (hc : X.calm = true) : CallR X (.type "dict") (fun xs H Q => ∃ a o ps kvs, xs = [.ref a] ∧ H a = some (.frz o (.tup (ps.map V.ref))) ∧ o.dict = none ∧ Paired (fun p kv => SqT X.K H p [kV kv.1, kv.2]) ps kvs ∧
    ∀ p, H p = none → Q (.ref p) (upd H p (.dK (mergeK [] kvs)))) := by
  intro pn sh σ H xs us Q I r ⟨a, o, ps, kvs, ex, ha, hd, hp, q⟩
  subst ex
  obtain ⟨u, eu, rx⟩ := vals1 r
  subst eu
  cases rx
  obtain ⟨ho, hz, its, rv, o2, ho2, hcl, nn, hdat⟩ := I.hok a _ ha
  rw [ho] at ho2
  cases ho2
  have ei := refs_at rv
  subst ei
  obtain ⟨prs, rel, hl, hat⟩ := pairs_of I hp
  have hlen : ps.length ≤ sizeLine := by simpa using hz
  obtain ⟨qs, lq, zq⟩ := pairs_split prs ps hat
  have hqp : qs.length = ps.length := by omega
  refine PySem.call_dict_pairs (knd := mixKind X.prog X.w) (kvs := prs) (PairArg.tuple a (ps.map Value.ref).toArray (fun j => ps.getD j 0) qs) (I.ok.hd hc) ⟨⟨o, nn, ho, hcl, hd, hdat⟩, by simp [hqp], fun j k v e => ?_⟩ ⟨lq.symm, fun j k v e => ?_⟩ (by omega) fun h2 tk dd keep => ?_
  · obtain ⟨⟨b, e1, e2⟩, _⟩ := zq j k v e
    have eg : ps.getD j 0 = b := by simp [List.getD, e1]
    refine ⟨by simp [e1], .inl ?_⟩
    show sh.heap.IsTuple (ps.getD j 0) #[k, v]
    rw [eg]
    exact e2
  · obtain ⟨_, kk, e1, e2⟩ := zq j k v e
    exact ⟨kk, e1, e2⟩
  · have hf : H sh.heap.objs.size = none := I.hok.fresh (Nat.le_refl _)
    have big := I.big
    refine ⟨.ref _, _, I.laid (t' := tk) (fun b u e => keep b u (by simp) e) (Nat.le_refl _) (dk_new (by have := length_mergeK kvs []; have := rel.length; simp only [List.length_nil, Nat.zero_add] at *; omega) ?_ (rel.merge .nil) dd), rfl, q _ hf⟩
    exact beq_eq_false_iff_ne.mpr (Nat.ne_of_gt big)
/-- d.update(e), two dicts -/
def rDUpd : V → List V → Hp → VK → Prop := fun x xs H Q => ∃ a b kvs more, x = .ref a ∧ xs = [.ref b] ∧ a ≠ b ∧ H a = some (.dK kvs) ∧ H b = some (.dK more) ∧ kvs.length + more.length ≤ sizeLine ∧ Q .non (upd H a (.dK (mergeK kvs more)))
theorem mt_dupd : MtR X "dict.update" rDUpd := by
  intro pn sh σ H x xs v us Q I rx r ⟨a, b, kvs, more, ex, exs, hne, ha, hb, hl, q⟩
  subst ex exs
  cases rx
  obtain ⟨u, eu, ru⟩ := vals1 r
  subst eu
  cases ru
  obtain ⟨za, lo, va, ra, da⟩ := dk_of I.hok ha
  obtain ⟨zb, lo2, vb, rb, db⟩ := dk_of I.hok hb
  have hv : va.length + vb.length ≤ sizeLine := by rw [← ra.length, ← rb.length]; exact hl
  refine call_meetsIn PySem.F.slot_dict_update da.typeIs PySem.F.entry_dict_update (PySem.F.args_dict_update_2 _ _) (meets_dict_update (mixKind X.prog X.w) a b hne lo2) ⟨va, vb, da, db, hv, fun h2 d1 _ hs => ?_⟩
  have he : ∃ ob, h2.get? a = some ob := let ⟨ob, _, _, h, _⟩ := d1; ⟨ob, h⟩
  show EP X pn σ Q Value.none _
  exact ⟨.non, _, d_write I (by rw [ha]; exact True.intro) hs he (dk_new (by have := length_mergeK more kvs; omega) lo (rb.merge ra) d1), rfl, q⟩
/-- == of the values of two dicts, by a function q of the values -/
def eqAll (q : V → V → Bool) (ks ls : List (Key × V)) : Bool := ks.all fun p => match valV ls p.1 with
  | none => false
  | some v => q p.2 v
def rNeDT (K : PySem.W.Frag) : R2 := fun x y H Q => ∃ a b ks ls, ∃ q : V → V → Bool, x = .ref a ∧ y = .ref b ∧ H a = some (.dK ks) ∧ H b = some (.dK ls) ∧
  (∀ p ∈ ks, ∀ v, valV ls p.1 = some v → ∃ d e, Dp K H p.2 d ∧ Dp K H v e ∧ SeqAt.shaped d = true ∧ SeqAt.shaped e = true ∧ q p.2 v = PyData.eqv d e) ∧ Q (.bl (!(decide (ks.length = ls.length) && eqAll q ks ls))) H
theorem hits_of {pn : List (Addr × Obj)} {σ : L2.St} {H : Hp} {sh : Shared} {A : Around} {q : V → V → Bool} {ls : List (Key × V)} {vb : List (Key × Value)} (I : Inv X pn σ H sh) (hu : A.in1.units + 64 < cLine) (rb : KV ls vb) :
    ∀ {ks : List (Key × V)} {va : List (Key × Value)}, KV ks va → (∀ p ∈ ks, ∀ v, valV ls p.1 = some v → ∃ d e, Dp X.K H p.2 d ∧ Dp X.K H v e ∧ SeqAt.shaped d = true ∧ SeqAt.shaped e = true ∧ q p.2 v = PyData.eqv d e) →
      PySem.W.KeqHits A.in1 sh vb va (eqAll q ks ls)
  | [], _, .nil, _ => .nil
  | p :: r, _, .cons (b := w) h t, hp => by
    obtain ⟨key, u⟩ := w
    have h1 : p.1 = key := h.1
    have h2 : RelV p.2 u := h.2
    have rv := rb.val p.1
    have more := hits_of I hu rb t fun p' hm => hp p' (List.mem_cons_of_mem _ hm)
    cases e : valV ls p.1 with
    | none =>
      rw [e, h1] at rv
      have hn : valueAt vb key = none := rv.none_of
      have er : eqAll q (p :: r) ls = false := by
        unfold eqAll
        rw [List.all_cons, e]
        rfl
      rw [er]
      exact .miss hn
    | some v =>
      obtain ⟨d, e', d1, d2, s1, s2, eq⟩ := hp p List.mem_cons_self v e
      rw [e, h1] at rv
      obtain ⟨y, hy, ry⟩ := rv.some_of
      obtain ⟨as, q1⟩ := Dp.reads I d p.2 u d1 h2
      obtain ⟨bs, q2⟩ := Dp.reads I e' v y d2 ry
      have er : eqAll q (p :: r) ls = (PyData.eqv d e' && eqAll q r ls) := by
        unfold eqAll
        rw [List.all_cons, e, ← eq]
      rw [er]
      exact .hit hy (PySem.W.keq_at q1 q2 s1 s2 hu) more
theorem op_neDT (hu : X.A.units + 65 < cLine) : OpR X (compareOp .NotEq) (rNeDT X.K) := by
  intro pn sh σ H x y v u Q I rx ry ⟨a, b, ks, ls, q, ex, ey, ha, hb, hp, z⟩
  subst ex ey
  cases (show v = Value.ref a from rx)
  cases (show u = Value.ref b from ry)
  obtain ⟨_, lo, va, ra, da⟩ := dk_of I.hok ha
  obtain ⟨_, lo2, vb, rb, db⟩ := dk_of I.hok hb
  refine PySem.W.keq_ne (knd := mixKind X.prog X.w) (r := eqAll q ks ls) lo lo2 da db (by omega) (fun _ => hits_of I (A := X.A) (by show X.A.units + 1 + 64 < cLine; omega) rb ra hp) (fin_bl I z ?_)
  rw [← ra.length, ← rb.length] <;> rfl
/-- for k in e, e a dict that just came: it is locked from here on -/
def iKeysL (td : TE) : TI := fun σ H R => td σ H fun x H1 => ∃ d kvs, x = .ref d ∧ H1 d = some (.dK kvs) ∧ ∀ o, R (Itk d o kvs) (upd H1 d (.frz o (.dK kvs)))
theorem pi_keysL {tg e : Expr} {td : TE} (he : PE X e td) : PI X tg e (iKeysL td) := by
  refine ⟨fun pn sh σ H R I h => ?_⟩
  refine thn (he.run pn sh σ H _ I h) ?_
  rintro u s1 ⟨x, H1, I1, rx, d, kvs, ex, hd, q⟩
  subst ex
  cases (show u = Value.ref d from rx)
  obtain ⟨o, I2⟩ := I1.lock hd True.intro
  obtain ⟨hs, hg, hx, es, ep, vs, hdt, hsz, kv, hm⟩ := I2.frzK upd_same
  refine iter_keys hs hg hx hdt (pi_one (tk := s1.toks) I2 _ (turn_keys _ hdt) ⟨_, Heap.get?_push_size _ rfl, rfl, ?_⟩ (q o))
  rw [hsz] <;> rfl
/-- d[x], d a dict of the module with texts as keys -/
theorem pe_kd {d : Addr} {es : Array DictEntry} {nn : Nat} {e i : Expr} {te ti : TE} (D : KDict X.K X.w d es nn) (he : PE X e te) (hi : PE X i ti) (hs : NoSl i) :
    PE X (.Subscript e i pos) (tOp (fun x y H Q => ∃ z u0 v0, x = .ref d ∧ y = .str z ∧ PySem.W.nsIn X.K d z = some (some u0) ∧ RelV v0 u0 ∧ Q v0 H) te ti) := by
  refine ⟨fun pn sh σ H Q I h => ?_⟩
  refine subD_of PySem.F.slot_dict_getitem.lookup hs (thn (he.run pn sh σ H _ I h) ?_)
  rintro u s1 ⟨x, H1, I1, rx, q1⟩
  refine thn (hi.run pn s1 σ H1 _ I1 q1) ?_
  rintro iv s2 ⟨y, H2, I2, ry, z, u0, v0, ex, ey, e0, r0, q2⟩
  have ex' := ex
  subst ex'
  cases (show u = Value.ref d from rx)
  exact ⟨kd_type D I2, op_item_kd D pn s2 σ H2 (.ref d) y (.ref d) iv Q I2 rfl ry ⟨z, u0, v0, rfl, ey, e0, r0, q2⟩⟩
end
end SH

set_option Elab.async false
set_option linter.all false
set_option maxRecDepth 100000
set_option maxHeartbeats 4000000
namespace SH
open PySem PySem.Spec PyProof.Rows L2
theorem gives_ne_none (b : Addr) : Gives (Builtin.«NoneType.__ne__» ⟨[.none, .ref b], []⟩) (.val (Value.notImplemented)) :=
  .of_wp fun M A E sh Q h => by
    obtain ⟨hp, g, d, tk, os⟩ := sh
    wp_walk
    exact ⟨_, rfl, h⟩
/-- None != d -/
theorem ne_none_dict {prog : Program} {w : World} {A : Around} {E Q : Value → Shared → Prop} {sh : Shared} {b : Addr} (tb : sh.TypeIs (.ref b) "dict") (hu : A.units < cLine) (h : Q (.bool true) sh) : wpAny (model prog w) A (compareOp .NotEq .none (.ref b)) Q E sh := by
  show wpAny _ A (richCompare .NotEq .none (.ref b)) Q E sh
  have ta : sh.TypeIs .none "NoneType" := rfl
  have h1 := PySem.F.slot_NoneType_ne
  have h2 := PySem.F.slot_dict_ne_refl
  have gone : wpAny (model prog w) A (call (.builtin "dict.__ne__") [.ref b, .none]) (fun v s2 => v = .notImplemented ∧ Q (.bool true) s2) E sh := by
    refine wpAny_call_entry PySem.F.slot_dict_ne tb PySem.F.entry_dict_ne ?_ (PySem.F.args_dict_ne_2 _ _)
    show wpAny _ _ (Builtin.Dict.dictSlotArgs "__ne__" ⟨[.ref b, .none], []⟩ >>= _) _ _ sh
    refine wpAny_bind ?_
    unfold Builtin.Dict.dictSlotArgs
    refine wpAny_bind (wpAny_notOrdered_dict tb ?_)
    refine wpAny_pure ?_
    refine wpAny_bind (wpAny_isInstance (T := "NoneType") (b := false) (by rfl) (by rw [isSubtype_type]; kernel_rfl) ?_)
    simp only [Bool.not_false, if_true]
    exact wpAny_bind (wpAny_rule (wpAny_pure ⟨_, rfl, rfl, h⟩))
  simp only [richCompare, cmpInfo, ta.oneThing_none] at h1 h2 ⊢
  refine wpAny_holding (wpAny_bind (wpAny_cRoomFor_or (.inr hu) (wpAny_bind (wpAny_typeOf ta (wpAny_bind (wpAny_typeOf tb ?_))))))
  simp only [show (Value.type "NoneType" != Value.type "dict") = true by decide, if_true]
  refine wpAny_bind (wpAny_of_eq PySem.F.sub_dict_NoneType ?_)
  simp only [Bool.false_eq_true, if_false, Bool.not_false, if_true]
  refine wpAny_bind (m := tryCompare _ _ _) (wpAny_tryCompare_declines ta h1 (call_gives PySem.F.slot_NoneType_ne ta PySem.F.entry_NoneType_ne (PySem.F.args_NoneType_ne_2 _ _) (gives_ne_none b) ⟨rfl, ?_⟩))
  refine wpAny_bind (m := tryCompare _ _ _) (wpAny_tryCompare_declines tb h2 (wpAny_mono gone (fun v s2 q => ⟨q.1, ?_⟩) fun _ _ x => x))
  exact wpAny_bind (wpAny_rule (wpAny_bind (wpAny_of_eq (show isSame .none (.ref b) = pure false from rfl) (wpAny_pure q.2))))
section
variable {X : Cx}
/-- x != d, x None or a dict -/
def rNeO (K : PySem.W.Frag) : R2 := fun x y H Q => (x = .non ∧ ∃ b ls, y = .ref b ∧ H b = some (.dK ls) ∧ Q (.bl true) H) ∨ rNeDT K x y H Q
theorem op_neFor (hu : X.A.units + 65 < cLine) : OpR X (compareOp .NotEq) (rNeO X.K) := by
  intro pn sh σ H x y v u Q I rx ry h
  rcases h with ⟨ex, b, ls, ey, hb, q⟩ | h
  · subst ex ey
    cases (show v = Value.none from rx)
    cases (show u = Value.ref b from ry)
    obtain ⟨_, _, vb, _, db⟩ := dk_of I.hok hb
    exact ne_none_dict db.typeIs (by omega) ⟨.bl true, H, I, rfl, q⟩
  · exact op_neDT hu pn sh σ H x y v u Q I rx ry h
end
end SH

set_option Elab.async false
set_option linter.all false
set_option maxRecDepth 100000
set_option maxHeartbeats 4000000
namespace SH
open PySem PySem.Spec PyProof.Rows L2
/-! ### the text by places -/
def top (i : Nat) : Stmt := PySem.Challenge.pw_steadhold_k13_whole_nobody_reads_another.main.body.getD i (.Pass ⟨0, 0, 0, 0⟩)
abbrev s_is_number : Stmt := top 6
abbrev n_is_number : List Str := ["value"]
theorem sc_is_number : FnScope n_is_number ["value"] (defScope s_is_number) := ⟨rfl, rfl, rfl, by decide +kernel, rfl, by decide +kernel, by decide +kernel⟩
abbrev s_is_word : Stmt := top 10
abbrev n_is_word : List Str := ["value"]
theorem sc_is_word : FnScope n_is_word ["value"] (defScope s_is_word) := ⟨rfl, rfl, rfl, by decide +kernel, rfl, by decide +kernel, by decide +kernel⟩
abbrev s_is_words : Stmt := top 14
abbrev n_is_words : List Str := ["value", "word"]
theorem sc_is_words : FnScope n_is_words ["value"] (defScope s_is_words) := ⟨rfl, rfl, rfl, by decide +kernel, rfl, by decide +kernel, by decide +kernel⟩
abbrev s_Diskinit : Stmt := inClass (top 15) 0
abbrev n_Diskinit : List Str := ["self", "blocks"]
theorem sc_Diskinit : FnScope n_Diskinit ["self", "blocks"] (defScope s_Diskinit) := ⟨rfl, rfl, rfl, by decide +kernel, rfl, by decide +kernel, by decide +kernel⟩
abbrev s_Disk_words : Stmt := inClass (top 15) 1
abbrev n_Disk_words : List Str := ["self", "block"]
theorem sc_Disk_words : FnScope n_Disk_words ["self", "block"] (defScope s_Disk_words) := ⟨rfl, rfl, rfl, by decide +kernel, rfl, by decide +kernel, by decide +kernel⟩
abbrev s_Disk_queue : Stmt := inClass (top 15) 2
abbrev n_Disk_queue : List Str := ["self"]
theorem sc_Disk_queue : FnScope n_Disk_queue ["self"] (defScope s_Disk_queue) := ⟨rfl, rfl, rfl, by decide +kernel, rfl, by decide +kernel, by decide +kernel⟩
abbrev s_Disk_waits : Stmt := inClass (top 15) 3
abbrev n_Disk_waits : List Str := ["self", "block", "operation"]
theorem sc_Disk_waits : FnScope n_Disk_waits ["self", "block"] (defScope s_Disk_waits) := ⟨rfl, rfl, rfl, by decide +kernel, rfl, by decide +kernel, by decide +kernel⟩
abbrev s_Disk_add : Stmt := inClass (top 15) 4
abbrev n_Disk_add : List Str := ["self", "operation"]
theorem sc_Disk_add : FnScope n_Disk_add ["self", "operation"] (defScope s_Disk_add) := ⟨rfl, rfl, rfl, by decide +kernel, rfl, by decide +kernel, by decide +kernel⟩
abbrev s_Disk_do : Stmt := inClass (top 15) 5
abbrev n_Disk_do : List Str := ["self", "index", "operation"]
theorem sc_Disk_do : FnScope n_Disk_do ["self", "index"] (defScope s_Disk_do) := ⟨rfl, rfl, rfl, by decide +kernel, rfl, by decide +kernel, by decide +kernel⟩
abbrev s_Disk_cut : Stmt := inClass (top 15) 6
abbrev n_Disk_cut : List Str := ["self", "choices", "place", "operation"]
theorem sc_Disk_cut : FnScope n_Disk_cut ["self", "choices"] (defScope s_Disk_cut) := ⟨rfl, rfl, rfl, by decide +kernel, rfl, by decide +kernel, by decide +kernel⟩
abbrev s_Disk_image : Stmt := inClass (top 15) 7
abbrev n_Disk_image : List Str := ["self"]
theorem sc_Disk_image : FnScope n_Disk_image ["self"] (defScope s_Disk_image) := ⟨rfl, rfl, rfl, by decide +kernel, rfl, by decide +kernel, by decide +kernel⟩
abbrev s_disk_from : Stmt := top 16
abbrev n_disk_from : List Str := ["image", "disk", "words"]
theorem sc_disk_from : FnScope n_disk_from ["image"] (defScope s_disk_from) := ⟨rfl, rfl, rfl, by decide +kernel, rfl, by decide +kernel, by decide +kernel⟩
abbrev s_is_index : Stmt := top 25
abbrev n_is_index : List Str := ["value"]
theorem sc_is_index : FnScope n_is_index ["value"] (defScope s_is_index) := ⟨rfl, rfl, rfl, by decide +kernel, rfl, by decide +kernel, by decide +kernel⟩
abbrev s_is_guard : Stmt := top 26
abbrev n_is_guard : List Str := ["value"]
theorem sc_is_guard : FnScope n_is_guard ["value"] (defScope s_is_guard) := ⟨rfl, rfl, rfl, by decide +kernel, rfl, by decide +kernel, by decide +kernel⟩
abbrev s_is_many : Stmt := top 27
abbrev n_is_many : List Str := ["value", "start"]
theorem sc_is_many : FnScope n_is_many ["value", "start"] (defScope s_is_many) := ⟨rfl, rfl, rfl, by decide +kernel, rfl, by decide +kernel, by decide +kernel⟩
abbrev s_is_clause : Stmt := top 28
abbrev n_is_clause : List Str := ["value", "count", "guards", "start", "many", "kind", "guard"]
theorem sc_is_clause : FnScope n_is_clause ["value", "count"] (defScope s_is_clause) := ⟨rfl, rfl, rfl, by decide +kernel, rfl, by decide +kernel, by decide +kernel⟩
abbrev s_is_program : Stmt := top 29
abbrev n_is_program : List Str := ["value", "count", "clause"]
theorem sc_is_program : FnScope n_is_program ["value", "count"] (defScope s_is_program) := ⟨rfl, rfl, rfl, by decide +kernel, rfl, by decide +kernel, by decide +kernel⟩
abbrev s_is_block : Stmt := top 30
abbrev n_is_block : List Str := ["word", "blocks"]
theorem sc_is_block : FnScope n_is_block ["word", "blocks"] (defScope s_is_block) := ⟨rfl, rfl, rfl, by decide +kernel, rfl, by decide +kernel, by decide +kernel⟩
abbrev s_words_of : Stmt := top 31
abbrev n_words_of : List Str := ["clause", "words", "guards", "start", "many", "_", "index", "mask", "value"]
theorem sc_words_of : FnScope n_words_of ["clause", "words"] (defScope s_words_of) := ⟨rfl, rfl, rfl, by decide +kernel, rfl, by decide +kernel, by decide +kernel⟩
abbrev s_run_program : Stmt := top 32
abbrev n_run_program : List Str := ["program", "words", "blocks", "own", "found", "seen", "clause", "kind", "word"]
theorem sc_run_program : FnScope n_run_program ["program", "words", "blocks", "own"] (defScope s_run_program) := ⟨rfl, rfl, rfl, by decide +kernel, rfl, by decide +kernel, by decide +kernel⟩
abbrev s_Typesinit : Stmt := inClass (top 33) 0
abbrev n_Typesinit : List Str := ["self", "blocks"]
theorem sc_Typesinit : FnScope n_Typesinit ["self", "blocks"] (defScope s_Typesinit) := ⟨rfl, rfl, rfl, by decide +kernel, rfl, by decide +kernel, by decide +kernel⟩
abbrev s_Types_count : Stmt := inClass (top 33) 1
abbrev n_Types_count : List Str := ["self"]
theorem sc_Types_count : FnScope n_Types_count ["self"] (defScope s_Types_count) := ⟨rfl, rfl, rfl, by decide +kernel, rfl, by decide +kernel, by decide +kernel⟩
abbrev s_Types_is_known : Stmt := inClass (top 33) 2
abbrev n_Types_is_known : List Str := ["self", "number"]
theorem sc_Types_is_known : FnScope n_Types_is_known ["self", "number"] (defScope s_Types_is_known) := ⟨rfl, rfl, rfl, by decide +kernel, rfl, by decide +kernel, by decide +kernel⟩
abbrev s_Types_add : Stmt := inClass (top 33) 4
abbrev n_Types_add : List Str := ["self", "program", "environment"]
theorem sc_Types_add : FnScope n_Types_add ["self", "program", "environment"] (defScope s_Types_add) := ⟨rfl, rfl, rfl, by decide +kernel, rfl, by decide +kernel, by decide +kernel⟩
abbrev s_Types_owned : Stmt := inClass (top 33) 5
abbrev n_Types_owned : List Str := ["self", "number", "words"]
theorem sc_Types_owned : FnScope n_Types_owned ["self", "number", "words"] (defScope s_Types_owned) := ⟨rfl, rfl, rfl, by decide +kernel, rfl, by decide +kernel, by decide +kernel⟩
abbrev s_no : Stmt := top 37
abbrev n_no : List Str := ["word"]
theorem sc_no : FnScope n_no ["word"] (defScope s_no) := ⟨rfl, rfl, rfl, by decide +kernel, rfl, by decide +kernel, by decide +kernel⟩
abbrev s_Blocksinit : Stmt := inClass (top 38) 0
abbrev n_Blocksinit : List Str := ["self", "disk", "shares", "types", "environment", "block", "share"]
theorem sc_Blocksinit : FnScope n_Blocksinit ["self", "disk", "shares", "types"] (defScope s_Blocksinit) := ⟨rfl, rfl, rfl, by decide +kernel, rfl, by decide +kernel, by decide +kernel⟩
abbrev s_Blocks_is_fresh : Stmt := inClass (top 38) 1
abbrev n_Blocks_is_fresh : List Str := ["self", "block"]
theorem sc_Blocks_is_fresh : FnScope n_Blocks_is_fresh ["self", "block"] (defScope s_Blocks_is_fresh) := ⟨rfl, rfl, rfl, by decide +kernel, rfl, by decide +kernel, by decide +kernel⟩
abbrev s_Blocks_reserved : Stmt := inClass (top 38) 2
abbrev n_Blocks_reserved : List Str := ["self", "environment", "block"]
theorem sc_Blocks_reserved : FnScope n_Blocks_reserved ["self", "environment"] (defScope s_Blocks_reserved) := ⟨rfl, rfl, rfl, by decide +kernel, rfl, by decide +kernel, by decide +kernel⟩
abbrev s_Blocks_forest : Stmt := inClass (top 38) 3
abbrev n_Blocks_forest : List Str := ["self", "roots", "table", "found", "todo", "block", "owner", "kind", "owned", "child", "child_kind"]
theorem sc_Blocks_forest : FnScope n_Blocks_forest ["self", "roots", "table"] (defScope s_Blocks_forest) := ⟨rfl, rfl, rfl, by decide +kernel, rfl, by decide +kernel, by decide +kernel⟩
abbrev s_Blocks_lasting_forest : Stmt := inClass (top 38) 4
abbrev n_Blocks_lasting_forest : List Str := ["self", "environment"]
theorem sc_Blocks_lasting_forest : FnScope n_Blocks_lasting_forest ["self", "environment"] (defScope s_Blocks_lasting_forest) := ⟨rfl, rfl, rfl, by decide +kernel, rfl, by decide +kernel, by decide +kernel⟩
abbrev s_Blocks_forest_with : Stmt := inClass (top 38) 5
abbrev n_Blocks_forest_with : List Str := ["self", "environment", "changed", "words"]
theorem sc_Blocks_forest_with : FnScope n_Blocks_forest_with ["self", "environment", "changed", "words"] (defScope s_Blocks_forest_with) := ⟨rfl, rfl, rfl, by decide +kernel, rfl, by decide +kernel, by decide +kernel⟩
abbrev s_Blocks_memory_forest : Stmt := inClass (top 38) 6
abbrev n_Blocks_memory_forest : List Str := ["self", "environment", "roots", "block"]
theorem sc_Blocks_memory_forest : FnScope n_Blocks_memory_forest ["self", "environment"] (defScope s_Blocks_memory_forest) := ⟨rfl, rfl, rfl, by decide +kernel, rfl, by decide +kernel, by decide +kernel⟩
abbrev s_Blocks_coming : Stmt := inClass (top 38) 7
abbrev n_Blocks_coming : List Str := ["self", "environment", "lasting", "operation", "forest"]
theorem sc_Blocks_coming : FnScope n_Blocks_coming ["self", "environment"] (defScope s_Blocks_coming) := ⟨rfl, rfl, rfl, by decide +kernel, rfl, by decide +kernel, by decide +kernel⟩
abbrev s_Blocks_charged : Stmt := inClass (top 38) 8
abbrev n_Blocks_charged : List Str := ["self", "environment", "found", "operation", "block"]
theorem sc_Blocks_charged : FnScope n_Blocks_charged ["self", "environment"] (defScope s_Blocks_charged) := ⟨rfl, rfl, rfl, by decide +kernel, rfl, by decide +kernel, by decide +kernel⟩
abbrev s_Blocks_free : Stmt := inClass (top 38) 9
abbrev n_Blocks_free : List Str := ["self", "taken", "environment", "block"]
theorem sc_Blocks_free : FnScope n_Blocks_free ["self"] (defScope s_Blocks_free) := ⟨rfl, rfl, rfl, by decide +kernel, rfl, by decide +kernel, by decide +kernel⟩
abbrev s_Blocks_may_reserve : Stmt := inClass (top 38) 10
abbrev n_Blocks_may_reserve : List Str := ["self", "environment", "many", "free", "other"]
theorem sc_Blocks_may_reserve : FnScope n_Blocks_may_reserve ["self", "environment"] (defScope s_Blocks_may_reserve) := ⟨rfl, rfl, rfl, by decide +kernel, rfl, by decide +kernel, by decide +kernel⟩
abbrev s_Blocks_request : Stmt := inClass (top 38) 11
abbrev n_Blocks_request : List Str := ["self", "environment", "request", "word"]
theorem sc_Blocks_request : FnScope n_Blocks_request ["self", "environment", "request"] (defScope s_Blocks_request) := ⟨rfl, rfl, rfl, by decide +kernel, rfl, by decide +kernel, by decide +kernel⟩
abbrev s_Blocks_reserve : Stmt := inClass (top 38) 12
abbrev n_Blocks_reserve : List Str := ["self", "environment", "block"]
theorem sc_Blocks_reserve : FnScope n_Blocks_reserve ["self", "environment"] (defScope s_Blocks_reserve) := ⟨rfl, rfl, rfl, by decide +kernel, rfl, by decide +kernel, by decide +kernel⟩
abbrev s_Blocks_holds : Stmt := inClass (top 38) 14
abbrev n_Blocks_holds : List Str := ["self", "environment", "block"]
theorem sc_Blocks_holds : FnScope n_Blocks_holds ["self", "environment", "block"] (defScope s_Blocks_holds) := ⟨rfl, rfl, rfl, by decide +kernel, rfl, by decide +kernel, by decide +kernel⟩
abbrev s_Blocks_owns_something : Stmt := inClass (top 38) 15
abbrev n_Blocks_owns_something : List Str := ["self", "environment", "block", "forest", "child"]
theorem sc_Blocks_owns_something : FnScope n_Blocks_owns_something ["self", "environment", "block"] (defScope s_Blocks_owns_something) := ⟨rfl, rfl, rfl, by decide +kernel, rfl, by decide +kernel, by decide +kernel⟩
abbrev s_Blocks_unreserve : Stmt := inClass (top 38) 16
abbrev n_Blocks_unreserve : List Str := ["self", "environment", "block"]
theorem sc_Blocks_unreserve : FnScope n_Blocks_unreserve ["self", "environment", "block"] (defScope s_Blocks_unreserve) := ⟨rfl, rfl, rfl, by decide +kernel, rfl, by decide +kernel, by decide +kernel⟩
abbrev s_Blocks_fill : Stmt := inClass (top 38) 17
abbrev n_Blocks_fill : List Str := ["self", "environment", "block", "kind"]
theorem sc_Blocks_fill : FnScope n_Blocks_fill ["self", "environment", "block", "kind"] (defScope s_Blocks_fill) := ⟨rfl, rfl, rfl, by decide +kernel, rfl, by decide +kernel, by decide +kernel⟩
abbrev s_Blocks_fetch : Stmt := inClass (top 38) 18
abbrev n_Blocks_fetch : List Str := ["self", "environment", "block", "operation"]
theorem sc_Blocks_fetch : FnScope n_Blocks_fetch ["self", "environment", "block"] (defScope s_Blocks_fetch) := ⟨rfl, rfl, rfl, by decide +kernel, rfl, by decide +kernel, by decide +kernel⟩
abbrev s_Blocks_has_buffer : Stmt := inClass (top 38) 19
abbrev n_Blocks_has_buffer : List Str := ["self", "environment", "block"]
theorem sc_Blocks_has_buffer : FnScope n_Blocks_has_buffer ["self", "environment", "block"] (defScope s_Blocks_has_buffer) := ⟨rfl, rfl, rfl, by decide +kernel, rfl, by decide +kernel, by decide +kernel⟩
abbrev s_Blocks_buffered : Stmt := inClass (top 38) 20
abbrev n_Blocks_buffered : List Str := ["self", "environment", "word", "block", "words", "same"]
theorem sc_Blocks_buffered : FnScope n_Blocks_buffered ["self", "environment", "word", "block"] (defScope s_Blocks_buffered) := ⟨rfl, rfl, rfl, by decide +kernel, rfl, by decide +kernel, by decide +kernel⟩
abbrev s_Blocks_types_in : Stmt := inClass (top 38) 21
abbrev n_Blocks_types_in : List Str := ["self", "environment", "forest", "block"]
theorem sc_Blocks_types_in : FnScope n_Blocks_types_in ["self", "environment"] (defScope s_Blocks_types_in) := ⟨rfl, rfl, rfl, by decide +kernel, rfl, by decide +kernel, by decide +kernel⟩
abbrev s_Blocks_is_rows : Stmt := inClass (top 38) 22
abbrev n_Blocks_is_rows : List Str := ["self", "rows", "row"]
theorem sc_Blocks_is_rows : FnScope n_Blocks_is_rows ["self", "rows"] (defScope s_Blocks_is_rows) := ⟨rfl, rfl, rfl, by decide +kernel, rfl, by decide +kernel, by decide +kernel⟩
abbrev s_Blocks_alter : Stmt := inClass (top 38) 23
abbrev n_Blocks_alter : List Str := ["self", "environment", "rows", "kinds", "before", "behind", "comers", "block", "words", "present", "owned", "word", "child", "_"]
theorem sc_Blocks_alter : FnScope n_Blocks_alter ["self", "environment", "rows"] (defScope s_Blocks_alter) := ⟨rfl, rfl, rfl, by decide +kernel, rfl, by decide +kernel, by decide +kernel⟩
abbrev s_Blocks_alter_fault : Stmt := inClass (top 38) 24
abbrev n_Blocks_alter_fault : List Str := ["self", "environment", "rows", "before", "behind", "comers", "child", "block", "_"]
theorem sc_Blocks_alter_fault : FnScope n_Blocks_alter_fault ["self", "environment", "rows", "before", "behind", "comers"] (defScope s_Blocks_alter_fault) := ⟨rfl, rfl, rfl, by decide +kernel, rfl, by decide +kernel, by decide +kernel⟩
abbrev s_Blocks_is_filled : Stmt := inClass (top 38) 25
abbrev n_Blocks_is_filled : List Str := ["self", "environment", "block", "kind"]
theorem sc_Blocks_is_filled : FnScope n_Blocks_is_filled ["self", "environment", "block", "kind"] (defScope s_Blocks_is_filled) := ⟨rfl, rfl, rfl, by decide +kernel, rfl, by decide +kernel, by decide +kernel⟩
abbrev s_Blocks_is_above : Stmt := inClass (top 38) 26
abbrev n_Blocks_is_above : List Str := ["self", "environment", "rows", "child", "forest", "block", "_"]
theorem sc_Blocks_is_above : FnScope n_Blocks_is_above ["self", "environment", "rows", "child"] (defScope s_Blocks_is_above) := ⟨rfl, rfl, rfl, by decide +kernel, rfl, by decide +kernel, by decide +kernel⟩
abbrev s_Blocks_flush : Stmt := inClass (top 38) 27
abbrev n_Blocks_flush : List Str := ["self", "environment", "block", "words", "mine", "lasting", "forest", "operation"]
theorem sc_Blocks_flush : FnScope n_Blocks_flush ["self", "environment", "block", "words"] (defScope s_Blocks_flush) := ⟨rfl, rfl, rfl, by decide +kernel, rfl, by decide +kernel, by decide +kernel⟩
abbrev s_Blocks_may_link : Stmt := inClass (top 38) 28
abbrev n_Blocks_may_link : List Str := ["self", "environment", "forest", "charged", "block"]
theorem sc_Blocks_may_link : FnScope n_Blocks_may_link ["self", "environment", "forest"] (defScope s_Blocks_may_link) := ⟨rfl, rfl, rfl, by decide +kernel, rfl, by decide +kernel, by decide +kernel⟩
abbrev s_Blocks_do : Stmt := inClass (top 38) 29
abbrev n_Blocks_do : List Str := ["self", "index", "done", "operation", "words", "block", "environment"]
theorem sc_Blocks_do : FnScope n_Blocks_do ["self", "index"] (defScope s_Blocks_do) := ⟨rfl, rfl, rfl, by decide +kernel, rfl, by decide +kernel, by decide +kernel⟩
abbrev s_law_next : Stmt := top 40
abbrev n_law_next : List Str := ["_law_tape", "_law_many", "_law_rest", "_law_cell"]
theorem sc_law_next : FnScope n_law_next ["_law_tape", "_law_many"] (defScope s_law_next) := ⟨rfl, rfl, rfl, by decide +kernel, rfl, by decide +kernel, by decide +kernel⟩
abbrev s_law_types : Stmt := top 41
abbrev n_law_types : List Str := ["_law_many", "_law_types_here"]
theorem sc_law_types : FnScope n_law_types ["_law_many"] (defScope s_law_types) := ⟨rfl, rfl, rfl, by decide +kernel, rfl, by decide +kernel, by decide +kernel⟩
abbrev s_law_pick : Stmt := top 42
abbrev n_law_pick : List Str := ["_law_tape", "_law_blocks", "_law_e", "_law_menu"]
theorem sc_law_pick : FnScope n_law_pick ["_law_tape", "_law_blocks", "_law_e"] (defScope s_law_pick) := ⟨rfl, rfl, rfl, by decide +kernel, rfl, by decide +kernel, by decide +kernel⟩
abbrev s_law_wild_row : Stmt := top 43
abbrev n_law_wild_row : List Str := ["_law_tape", "_law_blocks", "_law_e", "_law_block", "_law_words", "_law_told", "_law_turn"]
theorem sc_law_wild_row : FnScope n_law_wild_row ["_law_tape", "_law_blocks", "_law_e", "_law_block"] (defScope s_law_wild_row) := ⟨rfl, rfl, rfl, by decide +kernel, rfl, by decide +kernel, by decide +kernel⟩
abbrev s_law_wild : Stmt := top 44
abbrev n_law_wild : List Str := ["_law_tape", "_law_blocks", "_law_e", "_law_block", "_law_kind", "_law_rows", "_law_other"]
theorem sc_law_wild : FnScope n_law_wild ["_law_tape", "_law_blocks", "_law_e"] (defScope s_law_wild) := ⟨rfl, rfl, rfl, by decide +kernel, rfl, by decide +kernel, by decide +kernel⟩
abbrev s_law_marked : Stmt := top 45
abbrev n_law_marked : List Str := ["_law_tape", "_law_blocks", "_law_e", "_law_request", "_law_rows", "_law_block", "_law_words", "_law_marked_here", "_law_k"]
theorem sc_law_marked : FnScope n_law_marked ["_law_tape", "_law_blocks", "_law_e"] (defScope s_law_marked) := ⟨rfl, rfl, rfl, by decide +kernel, rfl, by decide +kernel, by decide +kernel⟩
abbrev s_law_clean : Stmt := top 46
abbrev n_law_clean : List Str := ["_law_words", "_law_e", "_law_word"]
theorem sc_law_clean : FnScope n_law_clean ["_law_words", "_law_e"] (defScope s_law_clean) := ⟨rfl, rfl, rfl, by decide +kernel, rfl, by decide +kernel, by decide +kernel⟩
abbrev s_law_fits : Stmt := top 47
abbrev n_law_fits : List Str := ["_law_blocks", "_law_e", "_law_block", "_law_told"]
theorem sc_law_fits : FnScope n_law_fits ["_law_blocks", "_law_e"] (defScope s_law_fits) := ⟨rfl, rfl, rfl, by decide +kernel, rfl, by decide +kernel, by decide +kernel⟩
abbrev s_law : Stmt := top 48
abbrev n_law : List Str := ["_law_script", "_law_tape", "_law_many", "_law_shares", "_law_types_here", "_law_blocks", "_law_e", "_law_turn", "_law_kind", "_law_one", "_law_k"]
theorem sc_law : FnScope n_law ["_law_script"] (defScope s_law) := ⟨rfl, rfl, rfl, by decide +kernel, rfl, by decide +kernel, by decide +kernel⟩
/-! ### the facts of the head -/
open He in
abbrev d_is_number : He.DefD := ⟨("is_number", none), "is_number", "is_number", defArgs s_is_number, defBody s_is_number, defScope s_is_number, [], []⟩
abbrev d_is_word : He.DefD := ⟨("is_word", none), "is_word", "is_word", defArgs s_is_word, defBody s_is_word, defScope s_is_word, [], []⟩
abbrev d_is_words : He.DefD := ⟨("is_words", none), "is_words", "is_words", defArgs s_is_words, defBody s_is_words, defScope s_is_words, [], []⟩
abbrev d_Diskinit : He.DefD := ⟨("Disk", some "__init__"), "__init__", "Disk.__init__", defArgs s_Diskinit, defBody s_Diskinit, defScope s_Diskinit, [], []⟩
abbrev d_Disk_words : He.DefD := ⟨("Disk", some "words"), "words", "Disk.words", defArgs s_Disk_words, defBody s_Disk_words, defScope s_Disk_words, [], []⟩
abbrev d_Disk_queue : He.DefD := ⟨("Disk", some "queue"), "queue", "Disk.queue", defArgs s_Disk_queue, defBody s_Disk_queue, defScope s_Disk_queue, [], []⟩
abbrev d_Disk_waits : He.DefD := ⟨("Disk", some "waits"), "waits", "Disk.waits", defArgs s_Disk_waits, defBody s_Disk_waits, defScope s_Disk_waits, [], []⟩
abbrev d_Disk_add : He.DefD := ⟨("Disk", some "add"), "add", "Disk.add", defArgs s_Disk_add, defBody s_Disk_add, defScope s_Disk_add, [], []⟩
abbrev d_Disk_do : He.DefD := ⟨("Disk", some "do"), "do", "Disk.do", defArgs s_Disk_do, defBody s_Disk_do, defScope s_Disk_do, [], []⟩
abbrev d_Disk_cut : He.DefD := ⟨("Disk", some "cut"), "cut", "Disk.cut", defArgs s_Disk_cut, defBody s_Disk_cut, defScope s_Disk_cut, [], []⟩
abbrev d_Disk_image : He.DefD := ⟨("Disk", some "image"), "image", "Disk.image", defArgs s_Disk_image, defBody s_Disk_image, defScope s_Disk_image, [], []⟩
abbrev d_disk_from : He.DefD := ⟨("disk_from", none), "disk_from", "disk_from", defArgs s_disk_from, defBody s_disk_from, defScope s_disk_from, [], []⟩
abbrev d_is_index : He.DefD := ⟨("is_index", none), "is_index", "is_index", defArgs s_is_index, defBody s_is_index, defScope s_is_index, [], []⟩
abbrev d_is_guard : He.DefD := ⟨("is_guard", none), "is_guard", "is_guard", defArgs s_is_guard, defBody s_is_guard, defScope s_is_guard, [], []⟩
abbrev d_is_many : He.DefD := ⟨("is_many", none), "is_many", "is_many", defArgs s_is_many, defBody s_is_many, defScope s_is_many, [], []⟩
abbrev d_is_clause : He.DefD := ⟨("is_clause", none), "is_clause", "is_clause", defArgs s_is_clause, defBody s_is_clause, defScope s_is_clause, [], []⟩
abbrev d_is_program : He.DefD := ⟨("is_program", none), "is_program", "is_program", defArgs s_is_program, defBody s_is_program, defScope s_is_program, [], []⟩
abbrev d_is_block : He.DefD := ⟨("is_block", none), "is_block", "is_block", defArgs s_is_block, defBody s_is_block, defScope s_is_block, [], []⟩
abbrev d_words_of : He.DefD := ⟨("words_of", none), "words_of", "words_of", defArgs s_words_of, defBody s_words_of, defScope s_words_of, [], []⟩
abbrev d_run_program : He.DefD := ⟨("run_program", none), "run_program", "run_program", defArgs s_run_program, defBody s_run_program, defScope s_run_program, [], []⟩
abbrev d_Typesinit : He.DefD := ⟨("Types", some "__init__"), "__init__", "Types.__init__", defArgs s_Typesinit, defBody s_Typesinit, defScope s_Typesinit, [], []⟩
abbrev d_Types_count : He.DefD := ⟨("Types", some "count"), "count", "Types.count", defArgs s_Types_count, defBody s_Types_count, defScope s_Types_count, [], []⟩
abbrev d_Types_is_known : He.DefD := ⟨("Types", some "is_known"), "is_known", "Types.is_known", defArgs s_Types_is_known, defBody s_Types_is_known, defScope s_Types_is_known, [], []⟩
abbrev d_Types_add : He.DefD := ⟨("Types", some "add"), "add", "Types.add", defArgs s_Types_add, defBody s_Types_add, defScope s_Types_add, [], []⟩
abbrev d_Types_owned : He.DefD := ⟨("Types", some "owned"), "owned", "Types.owned", defArgs s_Types_owned, defBody s_Types_owned, defScope s_Types_owned, [], []⟩
abbrev d_no : He.DefD := ⟨("no", none), "no", "no", defArgs s_no, defBody s_no, defScope s_no, [], []⟩
abbrev d_Blocksinit : He.DefD := ⟨("Blocks", some "__init__"), "__init__", "Blocks.__init__", defArgs s_Blocksinit, defBody s_Blocksinit, defScope s_Blocksinit, [.non], []⟩
abbrev d_Blocks_is_fresh : He.DefD := ⟨("Blocks", some "is_fresh"), "is_fresh", "Blocks.is_fresh", defArgs s_Blocks_is_fresh, defBody s_Blocks_is_fresh, defScope s_Blocks_is_fresh, [], []⟩
abbrev d_Blocks_reserved : He.DefD := ⟨("Blocks", some "reserved"), "reserved", "Blocks.reserved", defArgs s_Blocks_reserved, defBody s_Blocks_reserved, defScope s_Blocks_reserved, [], []⟩
abbrev d_Blocks_forest : He.DefD := ⟨("Blocks", some "forest"), "forest", "Blocks.forest", defArgs s_Blocks_forest, defBody s_Blocks_forest, defScope s_Blocks_forest, [], []⟩
abbrev d_Blocks_lasting_forest : He.DefD := ⟨("Blocks", some "lasting_forest"), "lasting_forest", "Blocks.lasting_forest", defArgs s_Blocks_lasting_forest, defBody s_Blocks_lasting_forest, defScope s_Blocks_lasting_forest, [], []⟩
abbrev d_Blocks_forest_with : He.DefD := ⟨("Blocks", some "forest_with"), "forest_with", "Blocks.forest_with", defArgs s_Blocks_forest_with, defBody s_Blocks_forest_with, defScope s_Blocks_forest_with, [], []⟩
abbrev d_Blocks_memory_forest : He.DefD := ⟨("Blocks", some "memory_forest"), "memory_forest", "Blocks.memory_forest", defArgs s_Blocks_memory_forest, defBody s_Blocks_memory_forest, defScope s_Blocks_memory_forest, [], []⟩
abbrev d_Blocks_coming : He.DefD := ⟨("Blocks", some "coming"), "coming", "Blocks.coming", defArgs s_Blocks_coming, defBody s_Blocks_coming, defScope s_Blocks_coming, [], []⟩
abbrev d_Blocks_charged : He.DefD := ⟨("Blocks", some "charged"), "charged", "Blocks.charged", defArgs s_Blocks_charged, defBody s_Blocks_charged, defScope s_Blocks_charged, [], []⟩
abbrev d_Blocks_free : He.DefD := ⟨("Blocks", some "free"), "free", "Blocks.free", defArgs s_Blocks_free, defBody s_Blocks_free, defScope s_Blocks_free, [], []⟩
abbrev d_Blocks_may_reserve : He.DefD := ⟨("Blocks", some "may_reserve"), "may_reserve", "Blocks.may_reserve", defArgs s_Blocks_may_reserve, defBody s_Blocks_may_reserve, defScope s_Blocks_may_reserve, [], []⟩
abbrev d_Blocks_request : He.DefD := ⟨("Blocks", some "request"), "request", "Blocks.request", defArgs s_Blocks_request, defBody s_Blocks_request, defScope s_Blocks_request, [], []⟩
abbrev d_Blocks_reserve : He.DefD := ⟨("Blocks", some "_reserve"), "_reserve", "Blocks._reserve", defArgs s_Blocks_reserve, defBody s_Blocks_reserve, defScope s_Blocks_reserve, [], []⟩
abbrev d_Blocks_holds : He.DefD := ⟨("Blocks", some "_holds"), "_holds", "Blocks._holds", defArgs s_Blocks_holds, defBody s_Blocks_holds, defScope s_Blocks_holds, [], []⟩
abbrev d_Blocks_owns_something : He.DefD := ⟨("Blocks", some "_owns_something"), "_owns_something", "Blocks._owns_something", defArgs s_Blocks_owns_something, defBody s_Blocks_owns_something, defScope s_Blocks_owns_something, [], []⟩
abbrev d_Blocks_unreserve : He.DefD := ⟨("Blocks", some "_unreserve"), "_unreserve", "Blocks._unreserve", defArgs s_Blocks_unreserve, defBody s_Blocks_unreserve, defScope s_Blocks_unreserve, [], []⟩
abbrev d_Blocks_fill : He.DefD := ⟨("Blocks", some "_fill"), "_fill", "Blocks._fill", defArgs s_Blocks_fill, defBody s_Blocks_fill, defScope s_Blocks_fill, [], []⟩
abbrev d_Blocks_fetch : He.DefD := ⟨("Blocks", some "_fetch"), "_fetch", "Blocks._fetch", defArgs s_Blocks_fetch, defBody s_Blocks_fetch, defScope s_Blocks_fetch, [], []⟩
abbrev d_Blocks_has_buffer : He.DefD := ⟨("Blocks", some "_has_buffer"), "_has_buffer", "Blocks._has_buffer", defArgs s_Blocks_has_buffer, defBody s_Blocks_has_buffer, defScope s_Blocks_has_buffer, [], []⟩
abbrev d_Blocks_buffered : He.DefD := ⟨("Blocks", some "_buffered"), "_buffered", "Blocks._buffered", defArgs s_Blocks_buffered, defBody s_Blocks_buffered, defScope s_Blocks_buffered, [], []⟩
abbrev d_Blocks_types_in : He.DefD := ⟨("Blocks", some "_types_in"), "_types_in", "Blocks._types_in", defArgs s_Blocks_types_in, defBody s_Blocks_types_in, defScope s_Blocks_types_in, [], []⟩
abbrev d_Blocks_is_rows : He.DefD := ⟨("Blocks", some "_is_rows"), "_is_rows", "Blocks._is_rows", defArgs s_Blocks_is_rows, defBody s_Blocks_is_rows, defScope s_Blocks_is_rows, [], []⟩
abbrev d_Blocks_alter : He.DefD := ⟨("Blocks", some "_alter"), "_alter", "Blocks._alter", defArgs s_Blocks_alter, defBody s_Blocks_alter, defScope s_Blocks_alter, [], []⟩
abbrev d_Blocks_alter_fault : He.DefD := ⟨("Blocks", some "_alter_fault"), "_alter_fault", "Blocks._alter_fault", defArgs s_Blocks_alter_fault, defBody s_Blocks_alter_fault, defScope s_Blocks_alter_fault, [], []⟩
abbrev d_Blocks_is_filled : He.DefD := ⟨("Blocks", some "_is_filled"), "_is_filled", "Blocks._is_filled", defArgs s_Blocks_is_filled, defBody s_Blocks_is_filled, defScope s_Blocks_is_filled, [], []⟩
abbrev d_Blocks_is_above : He.DefD := ⟨("Blocks", some "_is_above"), "_is_above", "Blocks._is_above", defArgs s_Blocks_is_above, defBody s_Blocks_is_above, defScope s_Blocks_is_above, [], []⟩
abbrev d_Blocks_flush : He.DefD := ⟨("Blocks", some "_flush"), "_flush", "Blocks._flush", defArgs s_Blocks_flush, defBody s_Blocks_flush, defScope s_Blocks_flush, [], []⟩
abbrev d_Blocks_may_link : He.DefD := ⟨("Blocks", some "_may_link"), "_may_link", "Blocks._may_link", defArgs s_Blocks_may_link, defBody s_Blocks_may_link, defScope s_Blocks_may_link, [], []⟩
abbrev d_Blocks_do : He.DefD := ⟨("Blocks", some "do"), "do", "Blocks.do", defArgs s_Blocks_do, defBody s_Blocks_do, defScope s_Blocks_do, [], []⟩
abbrev d_law_next : He.DefD := ⟨("_law_next", none), "_law_next", "_law_next", defArgs s_law_next, defBody s_law_next, defScope s_law_next, [], []⟩
abbrev d_law_types : He.DefD := ⟨("_law_types", none), "_law_types", "_law_types", defArgs s_law_types, defBody s_law_types, defScope s_law_types, [], []⟩
abbrev d_law_pick : He.DefD := ⟨("_law_pick", none), "_law_pick", "_law_pick", defArgs s_law_pick, defBody s_law_pick, defScope s_law_pick, [], []⟩
abbrev d_law_wild_row : He.DefD := ⟨("_law_wild_row", none), "_law_wild_row", "_law_wild_row", defArgs s_law_wild_row, defBody s_law_wild_row, defScope s_law_wild_row, [], []⟩
abbrev d_law_wild : He.DefD := ⟨("_law_wild", none), "_law_wild", "_law_wild", defArgs s_law_wild, defBody s_law_wild, defScope s_law_wild, [], []⟩
abbrev d_law_marked : He.DefD := ⟨("_law_marked", none), "_law_marked", "_law_marked", defArgs s_law_marked, defBody s_law_marked, defScope s_law_marked, [], []⟩
abbrev d_law_clean : He.DefD := ⟨("_law_clean", none), "_law_clean", "_law_clean", defArgs s_law_clean, defBody s_law_clean, defScope s_law_clean, [], []⟩
abbrev d_law_fits : He.DefD := ⟨("_law_fits", none), "_law_fits", "_law_fits", defArgs s_law_fits, defBody s_law_fits, defScope s_law_fits, [], []⟩
abbrev d_law : He.DefD := ⟨("law", none), "law", "law", defArgs s_law, defBody s_law, defScope s_law, [], []⟩
def fns0 : List He.DefD := [d_is_number, d_is_word, d_is_words, d_Diskinit, d_Disk_words, d_Disk_queue, d_Disk_waits, d_Disk_add, d_Disk_do, d_Disk_cut, d_Disk_image, d_disk_from, d_is_index, d_is_guard, d_is_many, d_is_clause, d_is_program, d_is_block, d_words_of, d_run_program, d_Typesinit, d_Types_count, d_Types_is_known, d_Types_add, d_Types_owned]
def fns1 : List He.DefD := [d_no, d_Blocksinit, d_Blocks_is_fresh, d_Blocks_reserved, d_Blocks_forest, d_Blocks_lasting_forest, d_Blocks_forest_with, d_Blocks_memory_forest, d_Blocks_coming, d_Blocks_charged, d_Blocks_free, d_Blocks_may_reserve, d_Blocks_request, d_Blocks_reserve, d_Blocks_holds, d_Blocks_owns_something, d_Blocks_unreserve, d_Blocks_fill, d_Blocks_fetch, d_Blocks_has_buffer, d_Blocks_buffered, d_Blocks_types_in, d_Blocks_is_rows, d_Blocks_alter, d_Blocks_alter_fault]
def fns2 : List He.DefD := [d_Blocks_is_filled, d_Blocks_is_above, d_Blocks_flush, d_Blocks_may_link, d_Blocks_do, d_law_next, d_law_types, d_law_pick, d_law_wild_row, d_law_wild, d_law_marked, d_law_clean, d_law_fits, d_law]
def fns : List He.DefD := fns0 ++ (fns1 ++ (fns2))
open He He.Fa in
def fas0 : List He.Fa := [He.Fa.glo "is_number", He.Fa.glo "is_word", He.Fa.glo "is_words", He.Fa.glo "disk_from", He.Fa.glo "is_index", He.Fa.glo "is_guard", He.Fa.glo "is_many", He.Fa.glo "is_clause", He.Fa.glo "is_program", He.Fa.glo "is_block", He.Fa.glo "words_of", He.Fa.glo "run_program", He.Fa.glo "no", He.Fa.glo "_law_next", He.Fa.glo "_law_types", He.Fa.glo "_law_pick", He.Fa.glo "_law_wild_row", He.Fa.glo "_law_wild", He.Fa.glo "_law_marked", He.Fa.glo "_law_clean", He.Fa.glo "_law_fits", He.Fa.glo "law", He.Fa.glo "Disk", He.Fa.glo "Types", He.Fa.glo "Blocks"]
def fas1 : List He.Fa := [He.Fa.glo "BAD", He.Fa.glo "LENGTHS", He.Fa.free "abs", He.Fa.free "all", He.Fa.free "any", He.Fa.free "bool", He.Fa.free "dict", He.Fa.free "int", He.Fa.free "isinstance", He.Fa.free "len", He.Fa.free "list", He.Fa.free "max", He.Fa.free "min", He.Fa.free "range", He.Fa.free "sorted", He.Fa.free "str", He.Fa.free "sum", He.Fa.free "tuple", He.Fa.int "ENVIRONMENTS" 4, He.Fa.int "WORDS" 8, He.Fa.int "TOP" 4294967295, He.Fa.int "LEAST_BLOCKS" 24, He.Fa.int "MOST_BLOCKS" 64, He.Fa.int "MOST_TYPES" 4, He.Fa.int "MOST_CLAUSES" 8]
def fas2 : List He.Fa := [He.Fa.int "MOST_GUARDS" 4, He.Fa.int "DATA" 0, He.Fa.int "ROOT" 1, He.Fa.int "FIRST_TYPE" 2, He.Fa.str "OWN" "own", He.Fa.cls "Disk", He.Fa.mkr "Disk", He.Fa.noat "Disk" "blocks", He.Fa.noat "Disk" "held", He.Fa.noat "Disk" "waiting", He.Fa.cls "Types", He.Fa.mkr "Types", He.Fa.noat "Types" "blocks", He.Fa.noat "Types" "known", He.Fa.noat "Types" "makers", He.Fa.cls "Blocks", He.Fa.mkr "Blocks", He.Fa.noat "Blocks" "disk", He.Fa.noat "Blocks" "shares", He.Fa.noat "Blocks" "types", He.Fa.noat "Blocks" "buffers", He.Fa.noat "Blocks" "kept", He.Fa.noat "Blocks" "fresh", He.Fa.meth "Disk" "words", He.Fa.meth "Disk" "queue"]
def fas3 : List He.Fa := [He.Fa.meth "Disk" "waits", He.Fa.meth "Disk" "add", He.Fa.meth "Disk" "do", He.Fa.meth "Disk" "cut", He.Fa.meth "Disk" "image", He.Fa.meth "Types" "count", He.Fa.meth "Types" "is_known", He.Fa.meth "Types" "add", He.Fa.meth "Types" "owned", He.Fa.meth "Blocks" "is_fresh", He.Fa.meth "Blocks" "reserved", He.Fa.meth "Blocks" "forest", He.Fa.meth "Blocks" "lasting_forest", He.Fa.meth "Blocks" "forest_with", He.Fa.meth "Blocks" "memory_forest", He.Fa.meth "Blocks" "coming", He.Fa.meth "Blocks" "charged", He.Fa.meth "Blocks" "free", He.Fa.meth "Blocks" "may_reserve", He.Fa.meth "Blocks" "request", He.Fa.meth "Blocks" "_reserve", He.Fa.meth "Blocks" "_holds", He.Fa.meth "Blocks" "_owns_something", He.Fa.meth "Blocks" "_unreserve", He.Fa.meth "Blocks" "_fill"]
def fas4 : List He.Fa := [He.Fa.meth "Blocks" "_fetch", He.Fa.meth "Blocks" "_has_buffer", He.Fa.meth "Blocks" "_buffered", He.Fa.meth "Blocks" "_types_in", He.Fa.meth "Blocks" "_is_rows", He.Fa.meth "Blocks" "_alter", He.Fa.meth "Blocks" "_alter_fault", He.Fa.meth "Blocks" "_is_filled", He.Fa.meth "Blocks" "_is_above", He.Fa.meth "Blocks" "_flush", He.Fa.meth "Blocks" "_may_link", He.Fa.meth "Blocks" "do"]
def fas : List He.Fa := fas0 ++ (fas1 ++ (fas2 ++ (fas3 ++ (fas4))))

def lenKeys : List Str := ["reserve", "unreserve", "fill", "fetch", "words", "forget", "alter", "flush", "lasts", "register", "charged"]
def lenVals : List (Str × He.Dv) := [("reserve", .int 1), ("unreserve", .int 2), ("fill", .int 3), ("fetch", .int 2), ("words", .int 2), ("forget", .int 2), ("alter", .int 2), ("flush", .int 2), ("lasts", .int 2), ("register", .int 2), ("charged", .int 1)]
def tabs : List He.Tab := [((fun K => He.ga K "LENGTHS"), lenKeys)]
def exB (K : PySem.W.Frag) : Bool := He.tupB K "BAD" [.str "no", .str "form"] && He.valsB K (He.ga K "LENGTHS") lenVals
abbrev RowO : PySem.W.OpenRow := PySem.W.OpenLaw.row PySem.Challenge.rw_steadhold_k13_whole_nobody_reads_another
abbrev hk : PySem.W.Hook := He.hookX 5 fas fns tabs [] exB
structure Txt (w : World) (K : PySem.W.Frag) (mg : Str → Option Value) : Prop where
  ex : ∃ h : Heap, K.In h ∧ h.Ns mainGlobals mg ∧ He.SaysX fas fns tabs [] exB w h K
section
variable {w : World} {K : PySem.W.Frag} {mg : Str → Option Value}
theorem Txt.fact (T : Txt w K mg) (i : Nat) {f : He.Fa} (e : fas[i]? = some f) : ∃ h : Heap, K.In h ∧ h.Ns mainGlobals mg ∧ f.ok K = true := by
  obtain ⟨h, a, b, c⟩ := T.ex
  exact ⟨h, a, b, c.t.d.fact i e⟩
theorem Txt.def_ (T : Txt w K mg) (i : Nat) {d : He.DefD} (h : fns[i]? = some d) : ∃ fd, FunD K d.name d.qual d.params d.body d.scope (d.dvs K) (d.kws K) (He.fAd K d.at_) fd := by
  obtain ⟨_, _, _, c⟩ := T.ex
  exact c.t.d.def_ i h
theorem Txt.bad (T : Txt w K mg) (H : Hp) : SqT K H (He.ga K "BAD") [.str "no", .str "form"] := by
  obtain ⟨_, _, _, c⟩ := T.ex
  exact He.tupB_ok (He.ba c.more).1 H
theorem Txt.lens (T : Txt w K mg) : ∃ es n, KDict K w (He.ga K "LENGTHS") es n := by
  obtain ⟨_, _, _, c⟩ := T.ex
  exact c.t.tab 0 (t := ((fun K => He.ga K "LENGTHS"), lenKeys)) rfl
theorem Txt.len_ (T : Txt w K mg) {q : Str × He.Dv} (hq : q ∈ lenVals) : ∃ u, PySem.W.nsIn K (He.ga K "LENGTHS") q.1 = some (some u) ∧ RelV (q.2.v K) u := by
  obtain ⟨_, _, _, c⟩ := T.ex
  exact He.valsB_ok (He.ba c.more).2 hq

theorem Txt.o_is_number (T : Txt w K mg) : mg "is_number" = some (.ref (He.ga K "is_number")) := by
  obtain ⟨h, a, b, c⟩ := T.fact 0 (f := He.Fa.glo "is_number") rfl
  exact He.glo_ok a b c
theorem Txt.o_is_word (T : Txt w K mg) : mg "is_word" = some (.ref (He.ga K "is_word")) := by
  obtain ⟨h, a, b, c⟩ := T.fact 1 (f := He.Fa.glo "is_word") rfl
  exact He.glo_ok a b c
theorem Txt.o_is_words (T : Txt w K mg) : mg "is_words" = some (.ref (He.ga K "is_words")) := by
  obtain ⟨h, a, b, c⟩ := T.fact 2 (f := He.Fa.glo "is_words") rfl
  exact He.glo_ok a b c
theorem Txt.o_disk_from (T : Txt w K mg) : mg "disk_from" = some (.ref (He.ga K "disk_from")) := by
  obtain ⟨h, a, b, c⟩ := T.fact 3 (f := He.Fa.glo "disk_from") rfl
  exact He.glo_ok a b c
theorem Txt.o_is_index (T : Txt w K mg) : mg "is_index" = some (.ref (He.ga K "is_index")) := by
  obtain ⟨h, a, b, c⟩ := T.fact 4 (f := He.Fa.glo "is_index") rfl
  exact He.glo_ok a b c
theorem Txt.o_is_guard (T : Txt w K mg) : mg "is_guard" = some (.ref (He.ga K "is_guard")) := by
  obtain ⟨h, a, b, c⟩ := T.fact 5 (f := He.Fa.glo "is_guard") rfl
  exact He.glo_ok a b c
theorem Txt.o_is_many (T : Txt w K mg) : mg "is_many" = some (.ref (He.ga K "is_many")) := by
  obtain ⟨h, a, b, c⟩ := T.fact 6 (f := He.Fa.glo "is_many") rfl
  exact He.glo_ok a b c
theorem Txt.o_is_clause (T : Txt w K mg) : mg "is_clause" = some (.ref (He.ga K "is_clause")) := by
  obtain ⟨h, a, b, c⟩ := T.fact 7 (f := He.Fa.glo "is_clause") rfl
  exact He.glo_ok a b c
theorem Txt.o_is_program (T : Txt w K mg) : mg "is_program" = some (.ref (He.ga K "is_program")) := by
  obtain ⟨h, a, b, c⟩ := T.fact 8 (f := He.Fa.glo "is_program") rfl
  exact He.glo_ok a b c
theorem Txt.o_is_block (T : Txt w K mg) : mg "is_block" = some (.ref (He.ga K "is_block")) := by
  obtain ⟨h, a, b, c⟩ := T.fact 9 (f := He.Fa.glo "is_block") rfl
  exact He.glo_ok a b c
theorem Txt.o_words_of (T : Txt w K mg) : mg "words_of" = some (.ref (He.ga K "words_of")) := by
  obtain ⟨h, a, b, c⟩ := T.fact 10 (f := He.Fa.glo "words_of") rfl
  exact He.glo_ok a b c
theorem Txt.o_run_program (T : Txt w K mg) : mg "run_program" = some (.ref (He.ga K "run_program")) := by
  obtain ⟨h, a, b, c⟩ := T.fact 11 (f := He.Fa.glo "run_program") rfl
  exact He.glo_ok a b c
theorem Txt.o_no (T : Txt w K mg) : mg "no" = some (.ref (He.ga K "no")) := by
  obtain ⟨h, a, b, c⟩ := T.fact 12 (f := He.Fa.glo "no") rfl
  exact He.glo_ok a b c
theorem Txt.o_law_next (T : Txt w K mg) : mg "_law_next" = some (.ref (He.ga K "_law_next")) := by
  obtain ⟨h, a, b, c⟩ := T.fact 13 (f := He.Fa.glo "_law_next") rfl
  exact He.glo_ok a b c
theorem Txt.o_law_types (T : Txt w K mg) : mg "_law_types" = some (.ref (He.ga K "_law_types")) := by
  obtain ⟨h, a, b, c⟩ := T.fact 14 (f := He.Fa.glo "_law_types") rfl
  exact He.glo_ok a b c
theorem Txt.o_law_pick (T : Txt w K mg) : mg "_law_pick" = some (.ref (He.ga K "_law_pick")) := by
  obtain ⟨h, a, b, c⟩ := T.fact 15 (f := He.Fa.glo "_law_pick") rfl
  exact He.glo_ok a b c
theorem Txt.o_law_wild_row (T : Txt w K mg) : mg "_law_wild_row" = some (.ref (He.ga K "_law_wild_row")) := by
  obtain ⟨h, a, b, c⟩ := T.fact 16 (f := He.Fa.glo "_law_wild_row") rfl
  exact He.glo_ok a b c
theorem Txt.o_law_wild (T : Txt w K mg) : mg "_law_wild" = some (.ref (He.ga K "_law_wild")) := by
  obtain ⟨h, a, b, c⟩ := T.fact 17 (f := He.Fa.glo "_law_wild") rfl
  exact He.glo_ok a b c
theorem Txt.o_law_marked (T : Txt w K mg) : mg "_law_marked" = some (.ref (He.ga K "_law_marked")) := by
  obtain ⟨h, a, b, c⟩ := T.fact 18 (f := He.Fa.glo "_law_marked") rfl
  exact He.glo_ok a b c
theorem Txt.o_law_clean (T : Txt w K mg) : mg "_law_clean" = some (.ref (He.ga K "_law_clean")) := by
  obtain ⟨h, a, b, c⟩ := T.fact 19 (f := He.Fa.glo "_law_clean") rfl
  exact He.glo_ok a b c
theorem Txt.o_law_fits (T : Txt w K mg) : mg "_law_fits" = some (.ref (He.ga K "_law_fits")) := by
  obtain ⟨h, a, b, c⟩ := T.fact 20 (f := He.Fa.glo "_law_fits") rfl
  exact He.glo_ok a b c
theorem Txt.o_law (T : Txt w K mg) : mg "law" = some (.ref (He.ga K "law")) := by
  obtain ⟨h, a, b, c⟩ := T.fact 21 (f := He.Fa.glo "law") rfl
  exact He.glo_ok a b c
theorem Txt.o_Disk (T : Txt w K mg) : mg "Disk" = some (.ref (He.ga K "Disk")) := by
  obtain ⟨h, a, b, c⟩ := T.fact 22 (f := He.Fa.glo "Disk") rfl
  exact He.glo_ok a b c
theorem Txt.o_Types (T : Txt w K mg) : mg "Types" = some (.ref (He.ga K "Types")) := by
  obtain ⟨h, a, b, c⟩ := T.fact 23 (f := He.Fa.glo "Types") rfl
  exact He.glo_ok a b c
theorem Txt.o_Blocks (T : Txt w K mg) : mg "Blocks" = some (.ref (He.ga K "Blocks")) := by
  obtain ⟨h, a, b, c⟩ := T.fact 24 (f := He.Fa.glo "Blocks") rfl
  exact He.glo_ok a b c
theorem Txt.o_BAD (T : Txt w K mg) : mg "BAD" = some (.ref (He.ga K "BAD")) := by
  obtain ⟨h, a, b, c⟩ := T.fact 25 (f := He.Fa.glo "BAD") rfl
  exact He.glo_ok a b c
theorem Txt.o_LENGTHS (T : Txt w K mg) : mg "LENGTHS" = some (.ref (He.ga K "LENGTHS")) := by
  obtain ⟨h, a, b, c⟩ := T.fact 26 (f := He.Fa.glo "LENGTHS") rfl
  exact He.glo_ok a b c
theorem Txt.b_abs (T : Txt w K mg) : mg "abs" = none := by
  obtain ⟨h, a, b, c⟩ := T.fact 27 (f := He.Fa.free "abs") rfl
  exact He.free_ok a b c
theorem Txt.b_all (T : Txt w K mg) : mg "all" = none := by
  obtain ⟨h, a, b, c⟩ := T.fact 28 (f := He.Fa.free "all") rfl
  exact He.free_ok a b c
theorem Txt.b_any (T : Txt w K mg) : mg "any" = none := by
  obtain ⟨h, a, b, c⟩ := T.fact 29 (f := He.Fa.free "any") rfl
  exact He.free_ok a b c
theorem Txt.b_bool (T : Txt w K mg) : mg "bool" = none := by
  obtain ⟨h, a, b, c⟩ := T.fact 30 (f := He.Fa.free "bool") rfl
  exact He.free_ok a b c
theorem Txt.b_dict (T : Txt w K mg) : mg "dict" = none := by
  obtain ⟨h, a, b, c⟩ := T.fact 31 (f := He.Fa.free "dict") rfl
  exact He.free_ok a b c
theorem Txt.b_int (T : Txt w K mg) : mg "int" = none := by
  obtain ⟨h, a, b, c⟩ := T.fact 32 (f := He.Fa.free "int") rfl
  exact He.free_ok a b c
theorem Txt.b_isinstance (T : Txt w K mg) : mg "isinstance" = none := by
  obtain ⟨h, a, b, c⟩ := T.fact 33 (f := He.Fa.free "isinstance") rfl
  exact He.free_ok a b c
theorem Txt.b_len (T : Txt w K mg) : mg "len" = none := by
  obtain ⟨h, a, b, c⟩ := T.fact 34 (f := He.Fa.free "len") rfl
  exact He.free_ok a b c
theorem Txt.b_list (T : Txt w K mg) : mg "list" = none := by
  obtain ⟨h, a, b, c⟩ := T.fact 35 (f := He.Fa.free "list") rfl
  exact He.free_ok a b c
theorem Txt.b_max (T : Txt w K mg) : mg "max" = none := by
  obtain ⟨h, a, b, c⟩ := T.fact 36 (f := He.Fa.free "max") rfl
  exact He.free_ok a b c
theorem Txt.b_min (T : Txt w K mg) : mg "min" = none := by
  obtain ⟨h, a, b, c⟩ := T.fact 37 (f := He.Fa.free "min") rfl
  exact He.free_ok a b c
theorem Txt.b_range (T : Txt w K mg) : mg "range" = none := by
  obtain ⟨h, a, b, c⟩ := T.fact 38 (f := He.Fa.free "range") rfl
  exact He.free_ok a b c
theorem Txt.b_sorted (T : Txt w K mg) : mg "sorted" = none := by
  obtain ⟨h, a, b, c⟩ := T.fact 39 (f := He.Fa.free "sorted") rfl
  exact He.free_ok a b c
theorem Txt.b_str (T : Txt w K mg) : mg "str" = none := by
  obtain ⟨h, a, b, c⟩ := T.fact 40 (f := He.Fa.free "str") rfl
  exact He.free_ok a b c
theorem Txt.b_sum (T : Txt w K mg) : mg "sum" = none := by
  obtain ⟨h, a, b, c⟩ := T.fact 41 (f := He.Fa.free "sum") rfl
  exact He.free_ok a b c
theorem Txt.b_tuple (T : Txt w K mg) : mg "tuple" = none := by
  obtain ⟨h, a, b, c⟩ := T.fact 42 (f := He.Fa.free "tuple") rfl
  exact He.free_ok a b c
theorem Txt.i_ENVIRONMENTS (T : Txt w K mg) : ∃ t, mg "ENVIRONMENTS" = some (.int 4 t) := by
  obtain ⟨h, a, b, c⟩ := T.fact 43 (f := He.Fa.int "ENVIRONMENTS" 4) rfl
  exact He.int_ok a b c
theorem Txt.i_WORDS (T : Txt w K mg) : ∃ t, mg "WORDS" = some (.int 8 t) := by
  obtain ⟨h, a, b, c⟩ := T.fact 44 (f := He.Fa.int "WORDS" 8) rfl
  exact He.int_ok a b c
theorem Txt.i_TOP (T : Txt w K mg) : ∃ t, mg "TOP" = some (.int 4294967295 t) := by
  obtain ⟨h, a, b, c⟩ := T.fact 45 (f := He.Fa.int "TOP" 4294967295) rfl
  exact He.int_ok a b c
theorem Txt.i_LEAST_BLOCKS (T : Txt w K mg) : ∃ t, mg "LEAST_BLOCKS" = some (.int 24 t) := by
  obtain ⟨h, a, b, c⟩ := T.fact 46 (f := He.Fa.int "LEAST_BLOCKS" 24) rfl
  exact He.int_ok a b c
theorem Txt.i_MOST_BLOCKS (T : Txt w K mg) : ∃ t, mg "MOST_BLOCKS" = some (.int 64 t) := by
  obtain ⟨h, a, b, c⟩ := T.fact 47 (f := He.Fa.int "MOST_BLOCKS" 64) rfl
  exact He.int_ok a b c
theorem Txt.i_MOST_TYPES (T : Txt w K mg) : ∃ t, mg "MOST_TYPES" = some (.int 4 t) := by
  obtain ⟨h, a, b, c⟩ := T.fact 48 (f := He.Fa.int "MOST_TYPES" 4) rfl
  exact He.int_ok a b c
theorem Txt.i_MOST_CLAUSES (T : Txt w K mg) : ∃ t, mg "MOST_CLAUSES" = some (.int 8 t) := by
  obtain ⟨h, a, b, c⟩ := T.fact 49 (f := He.Fa.int "MOST_CLAUSES" 8) rfl
  exact He.int_ok a b c
theorem Txt.i_MOST_GUARDS (T : Txt w K mg) : ∃ t, mg "MOST_GUARDS" = some (.int 4 t) := by
  obtain ⟨h, a, b, c⟩ := T.fact 50 (f := He.Fa.int "MOST_GUARDS" 4) rfl
  exact He.int_ok a b c
theorem Txt.i_DATA (T : Txt w K mg) : ∃ t, mg "DATA" = some (.int 0 t) := by
  obtain ⟨h, a, b, c⟩ := T.fact 51 (f := He.Fa.int "DATA" 0) rfl
  exact He.int_ok a b c
theorem Txt.i_ROOT (T : Txt w K mg) : ∃ t, mg "ROOT" = some (.int 1 t) := by
  obtain ⟨h, a, b, c⟩ := T.fact 52 (f := He.Fa.int "ROOT" 1) rfl
  exact He.int_ok a b c
theorem Txt.i_FIRST_TYPE (T : Txt w K mg) : ∃ t, mg "FIRST_TYPE" = some (.int 2 t) := by
  obtain ⟨h, a, b, c⟩ := T.fact 53 (f := He.Fa.int "FIRST_TYPE" 2) rfl
  exact He.int_ok a b c
theorem Txt.i_OWN (T : Txt w K mg) : ∃ t, mg "OWN" = some (.str "own" t) := by
  obtain ⟨h, a, b, c⟩ := T.fact 54 (f := He.Fa.str "OWN" "own") rfl
  exact He.str_ok a b c
theorem Txt.k_Disk (T : Txt w K mg) : Cls K (He.ga K "Disk") := by
  obtain ⟨h, a, b, c⟩ := T.fact 55 (f := He.Fa.cls "Disk") rfl
  exact He.cls_ok c
theorem Txt.mk_Disk (T : Txt w K mg) : Mk K (He.ga K "Disk") (He.ma K (He.ga K "Disk") "__init__") := by
  obtain ⟨h, a, b, c⟩ := T.fact 56 (f := He.Fa.mkr "Disk") rfl
  exact He.mkr_ok c
theorem Txt.na_Disk_blocks (T : Txt w K mg) : NoAttr K (He.ga K "Disk") "blocks" := by
  obtain ⟨h, a, b, c⟩ := T.fact 57 (f := He.Fa.noat "Disk" "blocks") rfl
  exact He.noat_ok c
theorem Txt.na_Disk_held (T : Txt w K mg) : NoAttr K (He.ga K "Disk") "held" := by
  obtain ⟨h, a, b, c⟩ := T.fact 58 (f := He.Fa.noat "Disk" "held") rfl
  exact He.noat_ok c
theorem Txt.na_Disk_waiting (T : Txt w K mg) : NoAttr K (He.ga K "Disk") "waiting" := by
  obtain ⟨h, a, b, c⟩ := T.fact 59 (f := He.Fa.noat "Disk" "waiting") rfl
  exact He.noat_ok c
theorem Txt.k_Types (T : Txt w K mg) : Cls K (He.ga K "Types") := by
  obtain ⟨h, a, b, c⟩ := T.fact 60 (f := He.Fa.cls "Types") rfl
  exact He.cls_ok c
theorem Txt.mk_Types (T : Txt w K mg) : Mk K (He.ga K "Types") (He.ma K (He.ga K "Types") "__init__") := by
  obtain ⟨h, a, b, c⟩ := T.fact 61 (f := He.Fa.mkr "Types") rfl
  exact He.mkr_ok c
theorem Txt.na_Types_blocks (T : Txt w K mg) : NoAttr K (He.ga K "Types") "blocks" := by
  obtain ⟨h, a, b, c⟩ := T.fact 62 (f := He.Fa.noat "Types" "blocks") rfl
  exact He.noat_ok c
theorem Txt.na_Types_known (T : Txt w K mg) : NoAttr K (He.ga K "Types") "known" := by
  obtain ⟨h, a, b, c⟩ := T.fact 63 (f := He.Fa.noat "Types" "known") rfl
  exact He.noat_ok c
theorem Txt.na_Types_makers (T : Txt w K mg) : NoAttr K (He.ga K "Types") "makers" := by
  obtain ⟨h, a, b, c⟩ := T.fact 64 (f := He.Fa.noat "Types" "makers") rfl
  exact He.noat_ok c
theorem Txt.k_Blocks (T : Txt w K mg) : Cls K (He.ga K "Blocks") := by
  obtain ⟨h, a, b, c⟩ := T.fact 65 (f := He.Fa.cls "Blocks") rfl
  exact He.cls_ok c
theorem Txt.mk_Blocks (T : Txt w K mg) : Mk K (He.ga K "Blocks") (He.ma K (He.ga K "Blocks") "__init__") := by
  obtain ⟨h, a, b, c⟩ := T.fact 66 (f := He.Fa.mkr "Blocks") rfl
  exact He.mkr_ok c
theorem Txt.na_Blocks_disk (T : Txt w K mg) : NoAttr K (He.ga K "Blocks") "disk" := by
  obtain ⟨h, a, b, c⟩ := T.fact 67 (f := He.Fa.noat "Blocks" "disk") rfl
  exact He.noat_ok c
theorem Txt.na_Blocks_shares (T : Txt w K mg) : NoAttr K (He.ga K "Blocks") "shares" := by
  obtain ⟨h, a, b, c⟩ := T.fact 68 (f := He.Fa.noat "Blocks" "shares") rfl
  exact He.noat_ok c
theorem Txt.na_Blocks_types (T : Txt w K mg) : NoAttr K (He.ga K "Blocks") "types" := by
  obtain ⟨h, a, b, c⟩ := T.fact 69 (f := He.Fa.noat "Blocks" "types") rfl
  exact He.noat_ok c
theorem Txt.na_Blocks_buffers (T : Txt w K mg) : NoAttr K (He.ga K "Blocks") "buffers" := by
  obtain ⟨h, a, b, c⟩ := T.fact 70 (f := He.Fa.noat "Blocks" "buffers") rfl
  exact He.noat_ok c
theorem Txt.na_Blocks_kept (T : Txt w K mg) : NoAttr K (He.ga K "Blocks") "kept" := by
  obtain ⟨h, a, b, c⟩ := T.fact 71 (f := He.Fa.noat "Blocks" "kept") rfl
  exact He.noat_ok c
theorem Txt.na_Blocks_fresh (T : Txt w K mg) : NoAttr K (He.ga K "Blocks") "fresh" := by
  obtain ⟨h, a, b, c⟩ := T.fact 72 (f := He.Fa.noat "Blocks" "fresh") rfl
  exact He.noat_ok c
theorem Txt.me_Disk_words (T : Txt w K mg) : Meth K (He.ga K "Disk") "words" (He.ma K (He.ga K "Disk") "words") := by
  obtain ⟨h, a, b, c⟩ := T.fact 73 (f := He.Fa.meth "Disk" "words") rfl
  exact He.meth_ok c
theorem Txt.me_Disk_queue (T : Txt w K mg) : Meth K (He.ga K "Disk") "queue" (He.ma K (He.ga K "Disk") "queue") := by
  obtain ⟨h, a, b, c⟩ := T.fact 74 (f := He.Fa.meth "Disk" "queue") rfl
  exact He.meth_ok c
theorem Txt.me_Disk_waits (T : Txt w K mg) : Meth K (He.ga K "Disk") "waits" (He.ma K (He.ga K "Disk") "waits") := by
  obtain ⟨h, a, b, c⟩ := T.fact 75 (f := He.Fa.meth "Disk" "waits") rfl
  exact He.meth_ok c
theorem Txt.me_Disk_add (T : Txt w K mg) : Meth K (He.ga K "Disk") "add" (He.ma K (He.ga K "Disk") "add") := by
  obtain ⟨h, a, b, c⟩ := T.fact 76 (f := He.Fa.meth "Disk" "add") rfl
  exact He.meth_ok c
theorem Txt.me_Disk_do (T : Txt w K mg) : Meth K (He.ga K "Disk") "do" (He.ma K (He.ga K "Disk") "do") := by
  obtain ⟨h, a, b, c⟩ := T.fact 77 (f := He.Fa.meth "Disk" "do") rfl
  exact He.meth_ok c
theorem Txt.me_Disk_cut (T : Txt w K mg) : Meth K (He.ga K "Disk") "cut" (He.ma K (He.ga K "Disk") "cut") := by
  obtain ⟨h, a, b, c⟩ := T.fact 78 (f := He.Fa.meth "Disk" "cut") rfl
  exact He.meth_ok c
theorem Txt.me_Disk_image (T : Txt w K mg) : Meth K (He.ga K "Disk") "image" (He.ma K (He.ga K "Disk") "image") := by
  obtain ⟨h, a, b, c⟩ := T.fact 79 (f := He.Fa.meth "Disk" "image") rfl
  exact He.meth_ok c
theorem Txt.me_Types_count (T : Txt w K mg) : Meth K (He.ga K "Types") "count" (He.ma K (He.ga K "Types") "count") := by
  obtain ⟨h, a, b, c⟩ := T.fact 80 (f := He.Fa.meth "Types" "count") rfl
  exact He.meth_ok c
theorem Txt.me_Types_is_known (T : Txt w K mg) : Meth K (He.ga K "Types") "is_known" (He.ma K (He.ga K "Types") "is_known") := by
  obtain ⟨h, a, b, c⟩ := T.fact 81 (f := He.Fa.meth "Types" "is_known") rfl
  exact He.meth_ok c
theorem Txt.me_Types_add (T : Txt w K mg) : Meth K (He.ga K "Types") "add" (He.ma K (He.ga K "Types") "add") := by
  obtain ⟨h, a, b, c⟩ := T.fact 82 (f := He.Fa.meth "Types" "add") rfl
  exact He.meth_ok c
theorem Txt.me_Types_owned (T : Txt w K mg) : Meth K (He.ga K "Types") "owned" (He.ma K (He.ga K "Types") "owned") := by
  obtain ⟨h, a, b, c⟩ := T.fact 83 (f := He.Fa.meth "Types" "owned") rfl
  exact He.meth_ok c
theorem Txt.me_Blocks_is_fresh (T : Txt w K mg) : Meth K (He.ga K "Blocks") "is_fresh" (He.ma K (He.ga K "Blocks") "is_fresh") := by
  obtain ⟨h, a, b, c⟩ := T.fact 84 (f := He.Fa.meth "Blocks" "is_fresh") rfl
  exact He.meth_ok c
theorem Txt.me_Blocks_reserved (T : Txt w K mg) : Meth K (He.ga K "Blocks") "reserved" (He.ma K (He.ga K "Blocks") "reserved") := by
  obtain ⟨h, a, b, c⟩ := T.fact 85 (f := He.Fa.meth "Blocks" "reserved") rfl
  exact He.meth_ok c
theorem Txt.me_Blocks_forest (T : Txt w K mg) : Meth K (He.ga K "Blocks") "forest" (He.ma K (He.ga K "Blocks") "forest") := by
  obtain ⟨h, a, b, c⟩ := T.fact 86 (f := He.Fa.meth "Blocks" "forest") rfl
  exact He.meth_ok c
theorem Txt.me_Blocks_lasting_forest (T : Txt w K mg) : Meth K (He.ga K "Blocks") "lasting_forest" (He.ma K (He.ga K "Blocks") "lasting_forest") := by
  obtain ⟨h, a, b, c⟩ := T.fact 87 (f := He.Fa.meth "Blocks" "lasting_forest") rfl
  exact He.meth_ok c
theorem Txt.me_Blocks_forest_with (T : Txt w K mg) : Meth K (He.ga K "Blocks") "forest_with" (He.ma K (He.ga K "Blocks") "forest_with") := by
  obtain ⟨h, a, b, c⟩ := T.fact 88 (f := He.Fa.meth "Blocks" "forest_with") rfl
  exact He.meth_ok c
theorem Txt.me_Blocks_memory_forest (T : Txt w K mg) : Meth K (He.ga K "Blocks") "memory_forest" (He.ma K (He.ga K "Blocks") "memory_forest") := by
  obtain ⟨h, a, b, c⟩ := T.fact 89 (f := He.Fa.meth "Blocks" "memory_forest") rfl
  exact He.meth_ok c
theorem Txt.me_Blocks_coming (T : Txt w K mg) : Meth K (He.ga K "Blocks") "coming" (He.ma K (He.ga K "Blocks") "coming") := by
  obtain ⟨h, a, b, c⟩ := T.fact 90 (f := He.Fa.meth "Blocks" "coming") rfl
  exact He.meth_ok c
theorem Txt.me_Blocks_charged (T : Txt w K mg) : Meth K (He.ga K "Blocks") "charged" (He.ma K (He.ga K "Blocks") "charged") := by
  obtain ⟨h, a, b, c⟩ := T.fact 91 (f := He.Fa.meth "Blocks" "charged") rfl
  exact He.meth_ok c
theorem Txt.me_Blocks_free (T : Txt w K mg) : Meth K (He.ga K "Blocks") "free" (He.ma K (He.ga K "Blocks") "free") := by
  obtain ⟨h, a, b, c⟩ := T.fact 92 (f := He.Fa.meth "Blocks" "free") rfl
  exact He.meth_ok c
theorem Txt.me_Blocks_may_reserve (T : Txt w K mg) : Meth K (He.ga K "Blocks") "may_reserve" (He.ma K (He.ga K "Blocks") "may_reserve") := by
  obtain ⟨h, a, b, c⟩ := T.fact 93 (f := He.Fa.meth "Blocks" "may_reserve") rfl
  exact He.meth_ok c
theorem Txt.me_Blocks_request (T : Txt w K mg) : Meth K (He.ga K "Blocks") "request" (He.ma K (He.ga K "Blocks") "request") := by
  obtain ⟨h, a, b, c⟩ := T.fact 94 (f := He.Fa.meth "Blocks" "request") rfl
  exact He.meth_ok c
theorem Txt.me_Blocks_reserve (T : Txt w K mg) : Meth K (He.ga K "Blocks") "_reserve" (He.ma K (He.ga K "Blocks") "_reserve") := by
  obtain ⟨h, a, b, c⟩ := T.fact 95 (f := He.Fa.meth "Blocks" "_reserve") rfl
  exact He.meth_ok c
theorem Txt.me_Blocks_holds (T : Txt w K mg) : Meth K (He.ga K "Blocks") "_holds" (He.ma K (He.ga K "Blocks") "_holds") := by
  obtain ⟨h, a, b, c⟩ := T.fact 96 (f := He.Fa.meth "Blocks" "_holds") rfl
  exact He.meth_ok c
theorem Txt.me_Blocks_owns_something (T : Txt w K mg) : Meth K (He.ga K "Blocks") "_owns_something" (He.ma K (He.ga K "Blocks") "_owns_something") := by
  obtain ⟨h, a, b, c⟩ := T.fact 97 (f := He.Fa.meth "Blocks" "_owns_something") rfl
  exact He.meth_ok c
theorem Txt.me_Blocks_unreserve (T : Txt w K mg) : Meth K (He.ga K "Blocks") "_unreserve" (He.ma K (He.ga K "Blocks") "_unreserve") := by
  obtain ⟨h, a, b, c⟩ := T.fact 98 (f := He.Fa.meth "Blocks" "_unreserve") rfl
  exact He.meth_ok c
theorem Txt.me_Blocks_fill (T : Txt w K mg) : Meth K (He.ga K "Blocks") "_fill" (He.ma K (He.ga K "Blocks") "_fill") := by
  obtain ⟨h, a, b, c⟩ := T.fact 99 (f := He.Fa.meth "Blocks" "_fill") rfl
  exact He.meth_ok c
theorem Txt.me_Blocks_fetch (T : Txt w K mg) : Meth K (He.ga K "Blocks") "_fetch" (He.ma K (He.ga K "Blocks") "_fetch") := by
  obtain ⟨h, a, b, c⟩ := T.fact 100 (f := He.Fa.meth "Blocks" "_fetch") rfl
  exact He.meth_ok c
theorem Txt.me_Blocks_has_buffer (T : Txt w K mg) : Meth K (He.ga K "Blocks") "_has_buffer" (He.ma K (He.ga K "Blocks") "_has_buffer") := by
  obtain ⟨h, a, b, c⟩ := T.fact 101 (f := He.Fa.meth "Blocks" "_has_buffer") rfl
  exact He.meth_ok c
theorem Txt.me_Blocks_buffered (T : Txt w K mg) : Meth K (He.ga K "Blocks") "_buffered" (He.ma K (He.ga K "Blocks") "_buffered") := by
  obtain ⟨h, a, b, c⟩ := T.fact 102 (f := He.Fa.meth "Blocks" "_buffered") rfl
  exact He.meth_ok c
theorem Txt.me_Blocks_types_in (T : Txt w K mg) : Meth K (He.ga K "Blocks") "_types_in" (He.ma K (He.ga K "Blocks") "_types_in") := by
  obtain ⟨h, a, b, c⟩ := T.fact 103 (f := He.Fa.meth "Blocks" "_types_in") rfl
  exact He.meth_ok c
theorem Txt.me_Blocks_is_rows (T : Txt w K mg) : Meth K (He.ga K "Blocks") "_is_rows" (He.ma K (He.ga K "Blocks") "_is_rows") := by
  obtain ⟨h, a, b, c⟩ := T.fact 104 (f := He.Fa.meth "Blocks" "_is_rows") rfl
  exact He.meth_ok c
theorem Txt.me_Blocks_alter (T : Txt w K mg) : Meth K (He.ga K "Blocks") "_alter" (He.ma K (He.ga K "Blocks") "_alter") := by
  obtain ⟨h, a, b, c⟩ := T.fact 105 (f := He.Fa.meth "Blocks" "_alter") rfl
  exact He.meth_ok c
theorem Txt.me_Blocks_alter_fault (T : Txt w K mg) : Meth K (He.ga K "Blocks") "_alter_fault" (He.ma K (He.ga K "Blocks") "_alter_fault") := by
  obtain ⟨h, a, b, c⟩ := T.fact 106 (f := He.Fa.meth "Blocks" "_alter_fault") rfl
  exact He.meth_ok c
theorem Txt.me_Blocks_is_filled (T : Txt w K mg) : Meth K (He.ga K "Blocks") "_is_filled" (He.ma K (He.ga K "Blocks") "_is_filled") := by
  obtain ⟨h, a, b, c⟩ := T.fact 107 (f := He.Fa.meth "Blocks" "_is_filled") rfl
  exact He.meth_ok c
theorem Txt.me_Blocks_is_above (T : Txt w K mg) : Meth K (He.ga K "Blocks") "_is_above" (He.ma K (He.ga K "Blocks") "_is_above") := by
  obtain ⟨h, a, b, c⟩ := T.fact 108 (f := He.Fa.meth "Blocks" "_is_above") rfl
  exact He.meth_ok c
theorem Txt.me_Blocks_flush (T : Txt w K mg) : Meth K (He.ga K "Blocks") "_flush" (He.ma K (He.ga K "Blocks") "_flush") := by
  obtain ⟨h, a, b, c⟩ := T.fact 109 (f := He.Fa.meth "Blocks" "_flush") rfl
  exact He.meth_ok c
theorem Txt.me_Blocks_may_link (T : Txt w K mg) : Meth K (He.ga K "Blocks") "_may_link" (He.ma K (He.ga K "Blocks") "_may_link") := by
  obtain ⟨h, a, b, c⟩ := T.fact 110 (f := He.Fa.meth "Blocks" "_may_link") rfl
  exact He.meth_ok c
theorem Txt.me_Blocks_do (T : Txt w K mg) : Meth K (He.ga K "Blocks") "do" (He.ma K (He.ga K "Blocks") "do") := by
  obtain ⟨h, a, b, c⟩ := T.fact 111 (f := He.Fa.meth "Blocks" "do") rfl
  exact He.meth_ok c
theorem Txt.g_ENVIRONMENTS (T : Txt w K mg) : ∃ u, mg "ENVIRONMENTS" = some u ∧ RelV (.int 4) u := let ⟨t, e⟩ := T.i_ENVIRONMENTS; ⟨_, e, t, rfl⟩
theorem Txt.g_WORDS (T : Txt w K mg) : ∃ u, mg "WORDS" = some u ∧ RelV (.int 8) u := let ⟨t, e⟩ := T.i_WORDS; ⟨_, e, t, rfl⟩
theorem Txt.g_TOP (T : Txt w K mg) : ∃ u, mg "TOP" = some u ∧ RelV (.int 4294967295) u := let ⟨t, e⟩ := T.i_TOP; ⟨_, e, t, rfl⟩
theorem Txt.g_LEAST_BLOCKS (T : Txt w K mg) : ∃ u, mg "LEAST_BLOCKS" = some u ∧ RelV (.int 24) u := let ⟨t, e⟩ := T.i_LEAST_BLOCKS; ⟨_, e, t, rfl⟩
theorem Txt.g_MOST_BLOCKS (T : Txt w K mg) : ∃ u, mg "MOST_BLOCKS" = some u ∧ RelV (.int 64) u := let ⟨t, e⟩ := T.i_MOST_BLOCKS; ⟨_, e, t, rfl⟩
theorem Txt.g_MOST_TYPES (T : Txt w K mg) : ∃ u, mg "MOST_TYPES" = some u ∧ RelV (.int 4) u := let ⟨t, e⟩ := T.i_MOST_TYPES; ⟨_, e, t, rfl⟩
theorem Txt.g_MOST_CLAUSES (T : Txt w K mg) : ∃ u, mg "MOST_CLAUSES" = some u ∧ RelV (.int 8) u := let ⟨t, e⟩ := T.i_MOST_CLAUSES; ⟨_, e, t, rfl⟩
theorem Txt.g_MOST_GUARDS (T : Txt w K mg) : ∃ u, mg "MOST_GUARDS" = some u ∧ RelV (.int 4) u := let ⟨t, e⟩ := T.i_MOST_GUARDS; ⟨_, e, t, rfl⟩
theorem Txt.g_DATA (T : Txt w K mg) : ∃ u, mg "DATA" = some u ∧ RelV (.int 0) u := let ⟨t, e⟩ := T.i_DATA; ⟨_, e, t, rfl⟩
theorem Txt.g_ROOT (T : Txt w K mg) : ∃ u, mg "ROOT" = some u ∧ RelV (.int 1) u := let ⟨t, e⟩ := T.i_ROOT; ⟨_, e, t, rfl⟩
theorem Txt.g_FIRST_TYPE (T : Txt w K mg) : ∃ u, mg "FIRST_TYPE" = some u ∧ RelV (.int 2) u := let ⟨t, e⟩ := T.i_FIRST_TYPE; ⟨_, e, t, rfl⟩
theorem Txt.g_OWN (T : Txt w K mg) : ∃ u, mg "OWN" = some u ∧ RelV (.str "own") u := let ⟨t, e⟩ := T.i_OWN; ⟨_, e, t, rfl⟩
theorem Txt.g_BAD (T : Txt w K mg) : ∃ u, mg "BAD" = some u ∧ RelV (.ref (He.ga K "BAD")) u := ⟨_, T.o_BAD, rfl⟩
theorem Txt.g_LENGTHS (T : Txt w K mg) : ∃ u, mg "LENGTHS" = some u ∧ RelV (.ref (He.ga K "LENGTHS")) u := ⟨_, T.o_LENGTHS, rfl⟩
theorem Txt.f_is_number (T : Txt w K mg) : ∃ fd, FunD K "is_number" "is_number" (defArgs s_is_number) (defBody s_is_number) (defScope s_is_number) [] [] (He.fAd K ("is_number", none)) fd := T.def_ 0 (d := d_is_number) rfl
theorem Txt.f_is_word (T : Txt w K mg) : ∃ fd, FunD K "is_word" "is_word" (defArgs s_is_word) (defBody s_is_word) (defScope s_is_word) [] [] (He.fAd K ("is_word", none)) fd := T.def_ 1 (d := d_is_word) rfl
theorem Txt.f_is_words (T : Txt w K mg) : ∃ fd, FunD K "is_words" "is_words" (defArgs s_is_words) (defBody s_is_words) (defScope s_is_words) [] [] (He.fAd K ("is_words", none)) fd := T.def_ 2 (d := d_is_words) rfl
theorem Txt.f_Diskinit (T : Txt w K mg) : ∃ fd, FunD K "__init__" "Disk.__init__" (defArgs s_Diskinit) (defBody s_Diskinit) (defScope s_Diskinit) [] [] (He.fAd K ("Disk", some "__init__")) fd := T.def_ 3 (d := d_Diskinit) rfl
theorem Txt.f_Disk_words (T : Txt w K mg) : ∃ fd, FunD K "words" "Disk.words" (defArgs s_Disk_words) (defBody s_Disk_words) (defScope s_Disk_words) [] [] (He.fAd K ("Disk", some "words")) fd := T.def_ 4 (d := d_Disk_words) rfl
theorem Txt.f_Disk_queue (T : Txt w K mg) : ∃ fd, FunD K "queue" "Disk.queue" (defArgs s_Disk_queue) (defBody s_Disk_queue) (defScope s_Disk_queue) [] [] (He.fAd K ("Disk", some "queue")) fd := T.def_ 5 (d := d_Disk_queue) rfl
theorem Txt.f_Disk_waits (T : Txt w K mg) : ∃ fd, FunD K "waits" "Disk.waits" (defArgs s_Disk_waits) (defBody s_Disk_waits) (defScope s_Disk_waits) [] [] (He.fAd K ("Disk", some "waits")) fd := T.def_ 6 (d := d_Disk_waits) rfl
theorem Txt.f_Disk_add (T : Txt w K mg) : ∃ fd, FunD K "add" "Disk.add" (defArgs s_Disk_add) (defBody s_Disk_add) (defScope s_Disk_add) [] [] (He.fAd K ("Disk", some "add")) fd := T.def_ 7 (d := d_Disk_add) rfl
theorem Txt.f_Disk_do (T : Txt w K mg) : ∃ fd, FunD K "do" "Disk.do" (defArgs s_Disk_do) (defBody s_Disk_do) (defScope s_Disk_do) [] [] (He.fAd K ("Disk", some "do")) fd := T.def_ 8 (d := d_Disk_do) rfl
theorem Txt.f_Disk_cut (T : Txt w K mg) : ∃ fd, FunD K "cut" "Disk.cut" (defArgs s_Disk_cut) (defBody s_Disk_cut) (defScope s_Disk_cut) [] [] (He.fAd K ("Disk", some "cut")) fd := T.def_ 9 (d := d_Disk_cut) rfl
theorem Txt.f_Disk_image (T : Txt w K mg) : ∃ fd, FunD K "image" "Disk.image" (defArgs s_Disk_image) (defBody s_Disk_image) (defScope s_Disk_image) [] [] (He.fAd K ("Disk", some "image")) fd := T.def_ 10 (d := d_Disk_image) rfl
theorem Txt.f_disk_from (T : Txt w K mg) : ∃ fd, FunD K "disk_from" "disk_from" (defArgs s_disk_from) (defBody s_disk_from) (defScope s_disk_from) [] [] (He.fAd K ("disk_from", none)) fd := T.def_ 11 (d := d_disk_from) rfl
theorem Txt.f_is_index (T : Txt w K mg) : ∃ fd, FunD K "is_index" "is_index" (defArgs s_is_index) (defBody s_is_index) (defScope s_is_index) [] [] (He.fAd K ("is_index", none)) fd := T.def_ 12 (d := d_is_index) rfl
theorem Txt.f_is_guard (T : Txt w K mg) : ∃ fd, FunD K "is_guard" "is_guard" (defArgs s_is_guard) (defBody s_is_guard) (defScope s_is_guard) [] [] (He.fAd K ("is_guard", none)) fd := T.def_ 13 (d := d_is_guard) rfl
theorem Txt.f_is_many (T : Txt w K mg) : ∃ fd, FunD K "is_many" "is_many" (defArgs s_is_many) (defBody s_is_many) (defScope s_is_many) [] [] (He.fAd K ("is_many", none)) fd := T.def_ 14 (d := d_is_many) rfl
theorem Txt.f_is_clause (T : Txt w K mg) : ∃ fd, FunD K "is_clause" "is_clause" (defArgs s_is_clause) (defBody s_is_clause) (defScope s_is_clause) [] [] (He.fAd K ("is_clause", none)) fd := T.def_ 15 (d := d_is_clause) rfl
theorem Txt.f_is_program (T : Txt w K mg) : ∃ fd, FunD K "is_program" "is_program" (defArgs s_is_program) (defBody s_is_program) (defScope s_is_program) [] [] (He.fAd K ("is_program", none)) fd := T.def_ 16 (d := d_is_program) rfl
theorem Txt.f_is_block (T : Txt w K mg) : ∃ fd, FunD K "is_block" "is_block" (defArgs s_is_block) (defBody s_is_block) (defScope s_is_block) [] [] (He.fAd K ("is_block", none)) fd := T.def_ 17 (d := d_is_block) rfl
theorem Txt.f_words_of (T : Txt w K mg) : ∃ fd, FunD K "words_of" "words_of" (defArgs s_words_of) (defBody s_words_of) (defScope s_words_of) [] [] (He.fAd K ("words_of", none)) fd := T.def_ 18 (d := d_words_of) rfl
theorem Txt.f_run_program (T : Txt w K mg) : ∃ fd, FunD K "run_program" "run_program" (defArgs s_run_program) (defBody s_run_program) (defScope s_run_program) [] [] (He.fAd K ("run_program", none)) fd := T.def_ 19 (d := d_run_program) rfl
theorem Txt.f_Typesinit (T : Txt w K mg) : ∃ fd, FunD K "__init__" "Types.__init__" (defArgs s_Typesinit) (defBody s_Typesinit) (defScope s_Typesinit) [] [] (He.fAd K ("Types", some "__init__")) fd := T.def_ 20 (d := d_Typesinit) rfl
theorem Txt.f_Types_count (T : Txt w K mg) : ∃ fd, FunD K "count" "Types.count" (defArgs s_Types_count) (defBody s_Types_count) (defScope s_Types_count) [] [] (He.fAd K ("Types", some "count")) fd := T.def_ 21 (d := d_Types_count) rfl
theorem Txt.f_Types_is_known (T : Txt w K mg) : ∃ fd, FunD K "is_known" "Types.is_known" (defArgs s_Types_is_known) (defBody s_Types_is_known) (defScope s_Types_is_known) [] [] (He.fAd K ("Types", some "is_known")) fd := T.def_ 22 (d := d_Types_is_known) rfl
theorem Txt.f_Types_add (T : Txt w K mg) : ∃ fd, FunD K "add" "Types.add" (defArgs s_Types_add) (defBody s_Types_add) (defScope s_Types_add) [] [] (He.fAd K ("Types", some "add")) fd := T.def_ 23 (d := d_Types_add) rfl
theorem Txt.f_Types_owned (T : Txt w K mg) : ∃ fd, FunD K "owned" "Types.owned" (defArgs s_Types_owned) (defBody s_Types_owned) (defScope s_Types_owned) [] [] (He.fAd K ("Types", some "owned")) fd := T.def_ 24 (d := d_Types_owned) rfl
theorem Txt.f_no (T : Txt w K mg) : ∃ fd, FunD K "no" "no" (defArgs s_no) (defBody s_no) (defScope s_no) [] [] (He.fAd K ("no", none)) fd := T.def_ 25 (d := d_no) rfl
theorem Txt.f_Blocksinit (T : Txt w K mg) : ∃ fd, FunD K "__init__" "Blocks.__init__" (defArgs s_Blocksinit) (defBody s_Blocksinit) (defScope s_Blocksinit) [.non] [] (He.fAd K ("Blocks", some "__init__")) fd := T.def_ 26 (d := d_Blocksinit) rfl
theorem Txt.f_Blocks_is_fresh (T : Txt w K mg) : ∃ fd, FunD K "is_fresh" "Blocks.is_fresh" (defArgs s_Blocks_is_fresh) (defBody s_Blocks_is_fresh) (defScope s_Blocks_is_fresh) [] [] (He.fAd K ("Blocks", some "is_fresh")) fd := T.def_ 27 (d := d_Blocks_is_fresh) rfl
theorem Txt.f_Blocks_reserved (T : Txt w K mg) : ∃ fd, FunD K "reserved" "Blocks.reserved" (defArgs s_Blocks_reserved) (defBody s_Blocks_reserved) (defScope s_Blocks_reserved) [] [] (He.fAd K ("Blocks", some "reserved")) fd := T.def_ 28 (d := d_Blocks_reserved) rfl
theorem Txt.f_Blocks_forest (T : Txt w K mg) : ∃ fd, FunD K "forest" "Blocks.forest" (defArgs s_Blocks_forest) (defBody s_Blocks_forest) (defScope s_Blocks_forest) [] [] (He.fAd K ("Blocks", some "forest")) fd := T.def_ 29 (d := d_Blocks_forest) rfl
theorem Txt.f_Blocks_lasting_forest (T : Txt w K mg) : ∃ fd, FunD K "lasting_forest" "Blocks.lasting_forest" (defArgs s_Blocks_lasting_forest) (defBody s_Blocks_lasting_forest) (defScope s_Blocks_lasting_forest) [] [] (He.fAd K ("Blocks", some "lasting_forest")) fd := T.def_ 30 (d := d_Blocks_lasting_forest) rfl
theorem Txt.f_Blocks_forest_with (T : Txt w K mg) : ∃ fd, FunD K "forest_with" "Blocks.forest_with" (defArgs s_Blocks_forest_with) (defBody s_Blocks_forest_with) (defScope s_Blocks_forest_with) [] [] (He.fAd K ("Blocks", some "forest_with")) fd := T.def_ 31 (d := d_Blocks_forest_with) rfl
theorem Txt.f_Blocks_memory_forest (T : Txt w K mg) : ∃ fd, FunD K "memory_forest" "Blocks.memory_forest" (defArgs s_Blocks_memory_forest) (defBody s_Blocks_memory_forest) (defScope s_Blocks_memory_forest) [] [] (He.fAd K ("Blocks", some "memory_forest")) fd := T.def_ 32 (d := d_Blocks_memory_forest) rfl
theorem Txt.f_Blocks_coming (T : Txt w K mg) : ∃ fd, FunD K "coming" "Blocks.coming" (defArgs s_Blocks_coming) (defBody s_Blocks_coming) (defScope s_Blocks_coming) [] [] (He.fAd K ("Blocks", some "coming")) fd := T.def_ 33 (d := d_Blocks_coming) rfl
theorem Txt.f_Blocks_charged (T : Txt w K mg) : ∃ fd, FunD K "charged" "Blocks.charged" (defArgs s_Blocks_charged) (defBody s_Blocks_charged) (defScope s_Blocks_charged) [] [] (He.fAd K ("Blocks", some "charged")) fd := T.def_ 34 (d := d_Blocks_charged) rfl
theorem Txt.f_Blocks_free (T : Txt w K mg) : ∃ fd, FunD K "free" "Blocks.free" (defArgs s_Blocks_free) (defBody s_Blocks_free) (defScope s_Blocks_free) [] [] (He.fAd K ("Blocks", some "free")) fd := T.def_ 35 (d := d_Blocks_free) rfl
theorem Txt.f_Blocks_may_reserve (T : Txt w K mg) : ∃ fd, FunD K "may_reserve" "Blocks.may_reserve" (defArgs s_Blocks_may_reserve) (defBody s_Blocks_may_reserve) (defScope s_Blocks_may_reserve) [] [] (He.fAd K ("Blocks", some "may_reserve")) fd := T.def_ 36 (d := d_Blocks_may_reserve) rfl
theorem Txt.f_Blocks_request (T : Txt w K mg) : ∃ fd, FunD K "request" "Blocks.request" (defArgs s_Blocks_request) (defBody s_Blocks_request) (defScope s_Blocks_request) [] [] (He.fAd K ("Blocks", some "request")) fd := T.def_ 37 (d := d_Blocks_request) rfl
theorem Txt.f_Blocks_reserve (T : Txt w K mg) : ∃ fd, FunD K "_reserve" "Blocks._reserve" (defArgs s_Blocks_reserve) (defBody s_Blocks_reserve) (defScope s_Blocks_reserve) [] [] (He.fAd K ("Blocks", some "_reserve")) fd := T.def_ 38 (d := d_Blocks_reserve) rfl
theorem Txt.f_Blocks_holds (T : Txt w K mg) : ∃ fd, FunD K "_holds" "Blocks._holds" (defArgs s_Blocks_holds) (defBody s_Blocks_holds) (defScope s_Blocks_holds) [] [] (He.fAd K ("Blocks", some "_holds")) fd := T.def_ 39 (d := d_Blocks_holds) rfl
theorem Txt.f_Blocks_owns_something (T : Txt w K mg) : ∃ fd, FunD K "_owns_something" "Blocks._owns_something" (defArgs s_Blocks_owns_something) (defBody s_Blocks_owns_something) (defScope s_Blocks_owns_something) [] [] (He.fAd K ("Blocks", some "_owns_something")) fd := T.def_ 40 (d := d_Blocks_owns_something) rfl
theorem Txt.f_Blocks_unreserve (T : Txt w K mg) : ∃ fd, FunD K "_unreserve" "Blocks._unreserve" (defArgs s_Blocks_unreserve) (defBody s_Blocks_unreserve) (defScope s_Blocks_unreserve) [] [] (He.fAd K ("Blocks", some "_unreserve")) fd := T.def_ 41 (d := d_Blocks_unreserve) rfl
theorem Txt.f_Blocks_fill (T : Txt w K mg) : ∃ fd, FunD K "_fill" "Blocks._fill" (defArgs s_Blocks_fill) (defBody s_Blocks_fill) (defScope s_Blocks_fill) [] [] (He.fAd K ("Blocks", some "_fill")) fd := T.def_ 42 (d := d_Blocks_fill) rfl
theorem Txt.f_Blocks_fetch (T : Txt w K mg) : ∃ fd, FunD K "_fetch" "Blocks._fetch" (defArgs s_Blocks_fetch) (defBody s_Blocks_fetch) (defScope s_Blocks_fetch) [] [] (He.fAd K ("Blocks", some "_fetch")) fd := T.def_ 43 (d := d_Blocks_fetch) rfl
theorem Txt.f_Blocks_has_buffer (T : Txt w K mg) : ∃ fd, FunD K "_has_buffer" "Blocks._has_buffer" (defArgs s_Blocks_has_buffer) (defBody s_Blocks_has_buffer) (defScope s_Blocks_has_buffer) [] [] (He.fAd K ("Blocks", some "_has_buffer")) fd := T.def_ 44 (d := d_Blocks_has_buffer) rfl
theorem Txt.f_Blocks_buffered (T : Txt w K mg) : ∃ fd, FunD K "_buffered" "Blocks._buffered" (defArgs s_Blocks_buffered) (defBody s_Blocks_buffered) (defScope s_Blocks_buffered) [] [] (He.fAd K ("Blocks", some "_buffered")) fd := T.def_ 45 (d := d_Blocks_buffered) rfl
theorem Txt.f_Blocks_types_in (T : Txt w K mg) : ∃ fd, FunD K "_types_in" "Blocks._types_in" (defArgs s_Blocks_types_in) (defBody s_Blocks_types_in) (defScope s_Blocks_types_in) [] [] (He.fAd K ("Blocks", some "_types_in")) fd := T.def_ 46 (d := d_Blocks_types_in) rfl
theorem Txt.f_Blocks_is_rows (T : Txt w K mg) : ∃ fd, FunD K "_is_rows" "Blocks._is_rows" (defArgs s_Blocks_is_rows) (defBody s_Blocks_is_rows) (defScope s_Blocks_is_rows) [] [] (He.fAd K ("Blocks", some "_is_rows")) fd := T.def_ 47 (d := d_Blocks_is_rows) rfl
theorem Txt.f_Blocks_alter (T : Txt w K mg) : ∃ fd, FunD K "_alter" "Blocks._alter" (defArgs s_Blocks_alter) (defBody s_Blocks_alter) (defScope s_Blocks_alter) [] [] (He.fAd K ("Blocks", some "_alter")) fd := T.def_ 48 (d := d_Blocks_alter) rfl
theorem Txt.f_Blocks_alter_fault (T : Txt w K mg) : ∃ fd, FunD K "_alter_fault" "Blocks._alter_fault" (defArgs s_Blocks_alter_fault) (defBody s_Blocks_alter_fault) (defScope s_Blocks_alter_fault) [] [] (He.fAd K ("Blocks", some "_alter_fault")) fd := T.def_ 49 (d := d_Blocks_alter_fault) rfl
theorem Txt.f_Blocks_is_filled (T : Txt w K mg) : ∃ fd, FunD K "_is_filled" "Blocks._is_filled" (defArgs s_Blocks_is_filled) (defBody s_Blocks_is_filled) (defScope s_Blocks_is_filled) [] [] (He.fAd K ("Blocks", some "_is_filled")) fd := T.def_ 50 (d := d_Blocks_is_filled) rfl
theorem Txt.f_Blocks_is_above (T : Txt w K mg) : ∃ fd, FunD K "_is_above" "Blocks._is_above" (defArgs s_Blocks_is_above) (defBody s_Blocks_is_above) (defScope s_Blocks_is_above) [] [] (He.fAd K ("Blocks", some "_is_above")) fd := T.def_ 51 (d := d_Blocks_is_above) rfl
theorem Txt.f_Blocks_flush (T : Txt w K mg) : ∃ fd, FunD K "_flush" "Blocks._flush" (defArgs s_Blocks_flush) (defBody s_Blocks_flush) (defScope s_Blocks_flush) [] [] (He.fAd K ("Blocks", some "_flush")) fd := T.def_ 52 (d := d_Blocks_flush) rfl
theorem Txt.f_Blocks_may_link (T : Txt w K mg) : ∃ fd, FunD K "_may_link" "Blocks._may_link" (defArgs s_Blocks_may_link) (defBody s_Blocks_may_link) (defScope s_Blocks_may_link) [] [] (He.fAd K ("Blocks", some "_may_link")) fd := T.def_ 53 (d := d_Blocks_may_link) rfl
theorem Txt.f_Blocks_do (T : Txt w K mg) : ∃ fd, FunD K "do" "Blocks.do" (defArgs s_Blocks_do) (defBody s_Blocks_do) (defScope s_Blocks_do) [] [] (He.fAd K ("Blocks", some "do")) fd := T.def_ 54 (d := d_Blocks_do) rfl
theorem Txt.f_law_next (T : Txt w K mg) : ∃ fd, FunD K "_law_next" "_law_next" (defArgs s_law_next) (defBody s_law_next) (defScope s_law_next) [] [] (He.fAd K ("_law_next", none)) fd := T.def_ 55 (d := d_law_next) rfl
theorem Txt.f_law_types (T : Txt w K mg) : ∃ fd, FunD K "_law_types" "_law_types" (defArgs s_law_types) (defBody s_law_types) (defScope s_law_types) [] [] (He.fAd K ("_law_types", none)) fd := T.def_ 56 (d := d_law_types) rfl
theorem Txt.f_law_pick (T : Txt w K mg) : ∃ fd, FunD K "_law_pick" "_law_pick" (defArgs s_law_pick) (defBody s_law_pick) (defScope s_law_pick) [] [] (He.fAd K ("_law_pick", none)) fd := T.def_ 57 (d := d_law_pick) rfl
theorem Txt.f_law_wild_row (T : Txt w K mg) : ∃ fd, FunD K "_law_wild_row" "_law_wild_row" (defArgs s_law_wild_row) (defBody s_law_wild_row) (defScope s_law_wild_row) [] [] (He.fAd K ("_law_wild_row", none)) fd := T.def_ 58 (d := d_law_wild_row) rfl
theorem Txt.f_law_wild (T : Txt w K mg) : ∃ fd, FunD K "_law_wild" "_law_wild" (defArgs s_law_wild) (defBody s_law_wild) (defScope s_law_wild) [] [] (He.fAd K ("_law_wild", none)) fd := T.def_ 59 (d := d_law_wild) rfl
theorem Txt.f_law_marked (T : Txt w K mg) : ∃ fd, FunD K "_law_marked" "_law_marked" (defArgs s_law_marked) (defBody s_law_marked) (defScope s_law_marked) [] [] (He.fAd K ("_law_marked", none)) fd := T.def_ 60 (d := d_law_marked) rfl
theorem Txt.f_law_clean (T : Txt w K mg) : ∃ fd, FunD K "_law_clean" "_law_clean" (defArgs s_law_clean) (defBody s_law_clean) (defScope s_law_clean) [] [] (He.fAd K ("_law_clean", none)) fd := T.def_ 61 (d := d_law_clean) rfl
theorem Txt.f_law_fits (T : Txt w K mg) : ∃ fd, FunD K "_law_fits" "_law_fits" (defArgs s_law_fits) (defBody s_law_fits) (defScope s_law_fits) [] [] (He.fAd K ("_law_fits", none)) fd := T.def_ 62 (d := d_law_fits) rfl
theorem Txt.f_law (T : Txt w K mg) : ∃ fd, FunD K "law" "law" (defArgs s_law) (defBody s_law) (defScope s_law) [] [] (He.fAd K ("law", none)) fd := T.def_ 63 (d := d_law) rfl
end
end SH

set_option Elab.async false
set_option linter.all false
set_option maxRecDepth 100000
set_option maxHeartbeats 0
namespace SH
open PySem PySem.Spec PyProof.Rows L2
def ob (s : PySem.W.SharedT) : He.AlX := He.obsX 5 fas fns tabs [] exB (HandSHeadRun.getT s)
theorem ob_eq (s : PySem.W.SharedT) : ob s = hk.obs s.abs := He.obsX_eq (HandSHeadRun.getT_eq s)
def loose0 : List Str := ["_wall", "SteadError", "NotValid", "ENVIRONMENTS", "is_number", "WORDS", "TOP", "is_word", "LEAST_BLOCKS", "MOST_BLOCKS", "is_words", "Disk", "disk_from", "MOST_TYPES", "MOST_CLAUSES", "MOST_GUARDS", "DATA", "ROOT", "FIRST_TYPE", "OWN", "is_index", "is_guard", "is_many", "is_clause", "is_program"]
def loose1 : List Str := ["is_block", "words_of", "run_program", "Types", "BAD", "LENGTHS", "no", "Blocks", "_law_next", "_law_types", "_law_pick", "_law_wild_row", "_law_wild", "_law_marked", "_law_clean", "_law_fits"]
def loose : List Str := loose0 ++ loose1
theorem run0 (w : World) : HandSHeadRun.RunEq RowO (PySem.W.view RowO.prog [48]) hk ob 6000 loose (w.withFollow "special-get-raises" false) := by
  intro os
  kernel_rfl
theorem run1 (w : World) : HandSHeadRun.RunEq RowO (PySem.W.view RowO.prog [48]) hk ob 6000 loose (w.withFollow "special-get-raises" true) := by
  intro os
  kernel_rfl
theorem run (w : World) : HandSHeadRun.RunEq RowO (PySem.W.view RowO.prog [48]) hk ob 6000 loose w := PySem.W.byRow2 "special-get-raises" (P := fun w => HandSHeadRun.RunEq RowO (PySem.W.view RowO.prog [48]) hk ob 6000 loose w) run0 run1 w
end SH

set_option Elab.async false
set_option linter.all false
set_option maxRecDepth 100000
set_option maxHeartbeats 4000000
namespace SH
open PySem PySem.Spec PyProof.Rows L2
section
variable {P : Program} {w : World} {K : PySem.W.Frag} {mg : Str → Option Value} {base : Heap}
/-- what a body has to show -/
abbrev Body (P : Program) (w : World) (K : PySem.W.Frag) (mg : Str → Option Value) (base : Heap) (k : Nat) (qual : Str) (st : Stmt) (N : List Str) (f : Addr) (sp : Sp) : Prop :=
  ∀ (cdv : Value) (A : Around) (outer : List PySem.Env) (s : Shared) (H : Hp) (vs : List V) (Q : VK) (E : XK), Room k (A.deeper (envOfC qual (defScope st) s.heap.objs.size f cdv)) → sp vs H Q E →
    ∃ t, PSs (cxOf C8.CX0 P w K mg base N qual (defScope st) f cdv A outer s H E).nox (defBody st) t ∧ t { nx := fun _ H' => Q .non H', rt := Q } (start N vs) H
theorem fn_go {x qual : Str} {st : Stmt} {f : Addr} {fd : FuncData} {dvs : List V} {N ps : List Str} {k : Nat} {sp : Sp} (F : FunD K x qual (defArgs st) (defBody st) (defScope st) dvs [] f fd) (S : FnScope N ps (defScope st))
    (len : ∀ vs H Q E, sp vs H Q E → vs.length = ps.length) (hb : Body P w K mg base k qual st N f sp) : FnOk P w K mg base C8.CX0 (k + 1) f fd ps sp :=
  F.ok S len fun cdv A outer s H vs Q E hr h => let ⟨t, a, b⟩ := hb cdv A outer s H vs Q E hr h; ⟨t, a.nox, b⟩
/-- how its arguments bind -/
abbrev BindsB (x qual : Str) (st : Stmt) (ps : List Str) : Prop := ∀ (kV doc pm : Value) (an : Option Addr) (cdv ct : Value) (us : List Value), us.length = ps.length → bindArgs (PySem.W.fnOf x qual (defArgs st) (defBody st) (defScope st) .none kV doc pm an cdv ct) ⟨us, []⟩ = pure (ps.zip us)
theorem cal_go {x : Str} {st : Stmt} {N ps : List Str} {k : Nat} {sp : Sp} (F : ∃ fd, FunD K x x (defArgs st) (defBody st) (defScope st) [] [] (He.fAd K (x, none)) fd) (hm : mg x = some (.ref (He.ga K x))) (S : FnScope N ps (defScope st)) (b : BindsB x x st ps)
    (len : ∀ vs H Q E, sp vs H Q E → vs.length = ps.length) (hb : Body P w K mg base k x st N (He.fAd K (x, none)) sp) : C8.Cal P w K mg base (k + 1) x sp [] := by
  obtain ⟨fd, F⟩ := F
  exact ⟨_, fd, ps, [], fn_go F S len hb, hm, F.kp, F.bindsN b, .nil⟩
theorem met_go {C m qual : Str} {st : Stmt} {N ps : List Str} {k : Nat} {sp : Sp} (F : ∃ fd, FunD K m qual (defArgs st) (defBody st) (defScope st) [] [] (He.fAd K (C, some m)) fd) (hc : Cls K (He.ga K C)) (hm : Meth K (He.ga K C) m (He.ma K (He.ga K C) m)) (S : FnScope N ps (defScope st)) (b : BindsB m qual st ps)
    (len : ∀ vs H Q E, sp vs H Q E → vs.length = ps.length) (hb : Body P w K mg base k qual st N (He.fAd K (C, some m)) sp) : C8.Met P w K mg base (k + 1) (He.ga K C) m sp [] := by
  obtain ⟨fd, F⟩ := F
  exact ⟨_, fd, ps, [], hc, hm, fn_go F S len hb, F.bindsN b, .nil⟩
theorem mak_go {C qual : Str} {st : Stmt} {N ps : List Str} {k : Nat} {sp : Sp} (F : ∃ fd, FunD K "__init__" qual (defArgs st) (defBody st) (defScope st) [] [] (He.fAd K (C, some "__init__")) fd) (hk : Mk K (He.ga K C) (He.ma K (He.ga K C) "__init__")) (hm : mg C = some (.ref (He.ga K C))) (S : FnScope N ps (defScope st)) (b : BindsB "__init__" qual st ps)
    (len : ∀ vs H Q E, sp vs H Q E → vs.length = ps.length) (hb : Body P w K mg base k qual st N (He.fAd K (C, some "__init__")) sp) : C8.Mak P w K mg base (k + 1) C (He.ga K C) sp [] := by
  obtain ⟨fd, F⟩ := F
  exact ⟨_, fd, ps, [], hk, fn_go F S len hb, hm, F.bindsN b, .nil⟩
/-- .. with one default, which is given -/
theorem mak_go1 {C qual : Str} {st : Stmt} {N ps : List Str} {k : Nat} {sp : Sp} {dv : V} (F : ∃ fd, FunD K "__init__" qual (defArgs st) (defBody st) (defScope st) [dv] [] (He.fAd K (C, some "__init__")) fd) (hk : Mk K (He.ga K C) (He.ma K (He.ga K C) "__init__")) (hm : mg C = some (.ref (He.ga K C))) (S : FnScope N ps (defScope st))
    (b : ∀ (T : Addr) (kV doc pm : Value) (an : Option Addr) (cdv ct : Value) (us its : List Value), us.length = ps.length → its.length = 1 →
      ∃ k, bindArgs (PySem.W.fnOf "__init__" qual (defArgs st) (defBody st) (defScope st) (.ref T) kV doc pm an cdv ct) ⟨us, []⟩ = seqItems? (.ref T) >>= k ∧ k (some its.toArray) = pure (ps.zip (us ++ its.drop 1)))
    (len : ∀ vs H Q E, sp vs H Q E → vs.length = ps.length) (hb : Body P w K mg base k qual st N (He.fAd K (C, some "__init__")) sp) : C8.Mak P w K mg base (k + 1) C (He.ga K C) sp [] := by
  obtain ⟨fd, F⟩ := F
  obtain ⟨ds, v, bb⟩ := F.binds1 ps.length 1 (by simp) (by simp) b
  exact ⟨_, fd, ps, ds, hk, fn_go F S len hb, hm, bb, v⟩
theorem hu65_of {A : Around} {k : Nat} (hr : Room k A) : A.units + 65 < cLine := by have := hr.un; omega
end
section
variable {X : Cx} {e : Expr} {es : List Expr} {f : Str} {pos : Pos} {ta : TE} {k n : Nat} {t : TGs}
/-- a field, the written part named (for comprehensions) -/
theorem pe_fldK (K : PySem.W.Frag) (hK : X.K = K) (he : PE X e ta) (hb : attributeBase e f X.env (eval e X.env) = eval e X.env) : PE X (.Attribute e f pos) (tFld K ta f) := by
  subst hK
  exact pe_fld he hb
theorem pg_tupK (K : PySem.W.Frag) (hK : X.K = K) (hc : X.calm = true) (h : PGs X es t)
    (hn : (assignEach es X.env).length = n := by rfl) (hst : (assignEach es X.env).findIdx? (·.1) = none := by rfl) : PG X (.Tuple es k pos) (gTup K n t) := by
  subst hK
  exact pg_tup hc h hn hst
end
end SH

set_option Elab.async false
set_option linter.all false
set_option maxRecDepth 100000
set_option maxHeartbeats 4000000
namespace SH
open PySem PySem.Spec PyProof.Rows L2
/-! ### lists without a name twice -/
theorem nodup_le {α : Type} [DecidableEq α] : ∀ {l m : List α}, l.Nodup → (∀ x ∈ l, x ∈ m) → l.length ≤ m.length
  | [], m, _, _ => Nat.zero_le _
  | a :: r, m, h, hs => by
    obtain ⟨h1, h2⟩ := List.nodup_cons.mp h
    have ha : a ∈ m := hs a List.mem_cons_self
    have q := nodup_le (m := m.erase a) h2 fun x hx => (List.mem_erase_of_ne fun e : x = a => h1 (e ▸ hx)).mpr (hs x (List.mem_cons_of_mem _ hx))
    rw [List.length_erase_of_mem ha] at q
    have : 0 < m.length := List.length_pos_of_mem ha
    rw [List.length_cons]
    omega
theorem nodup_all {α : Type} [DecidableEq α] {l m : List α} (h : l.Nodup) (hs : ∀ x ∈ l, x ∈ m) (hl : m.length ≤ l.length) : ∀ x ∈ m, x ∈ l := fun x hx => by
  by_cases e : x ∈ l
  · exact e
  · have q := nodup_le (m := m.erase x) h fun y hy => (List.mem_erase_of_ne fun z : y = x => e (z ▸ hy)).mpr (hs y hy)
    rw [List.length_erase_of_mem hx] at q
    have : 0 < m.length := List.length_pos_of_mem hx
    omega
/-! ### heaps -/
/-- what was tracked stands as before, but for Z -/
structure Go (Z : List Addr) (H H' : Hp) : Prop where
  fr : ∀ a o, H a = some o → a ∉ Z → H' a = some o
  tk : ∀ a xs, H a = some (.tup xs) → H' a = some (.tup xs)
  fk : ∀ a o u, H a = some (.frz o u) → H' a = some (.frz o u)
  th : ∀ a o, H a = some o → ∃ u, H' a = some u
section
variable {Z Z' : List Addr} {H H1 H' H2 : Hp} {K : PySem.W.Frag} {a b p : Addr} {o u : HO} {xs : List V}
theorem Go.refl : Go Z H H := ⟨fun _ _ h _ => h, fun _ _ h => h, fun _ _ _ h => h, fun _ o h => ⟨o, h⟩⟩
theorem Go.trans (x : Go Z H H1) (y : Go Z H1 H2) : Go Z H H2 := ⟨fun a o h n => y.fr a o (x.fr a o h n) n, fun a xs h => y.tk a xs (x.tk a xs h), fun a o u h => y.fk a o u (x.fk a o u h), fun a o h => let ⟨u, q⟩ := x.th a o h; y.th a u q⟩
theorem Go.mono (x : Go Z H H') (h : ∀ a ∈ Z, a ∈ Z') : Go Z' H H' := ⟨fun a o q n => x.fr a o q fun m => n (h a m), x.tk, x.fk, x.th⟩
theorem Go.lift (x : Go [] H H') : Go Z H H' := x.mono fun _ h => nomatch h
theorem Go.at (x : Go [] H H') (h : H a = some o) : H' a = some o := x.fr a o h List.not_mem_nil
theorem Go.same (h : ∀ a o, H a = some o → H' a = some o) : Go [] H H' := ⟨fun a o q _ => h a o q, fun a xs q => h a _ q, fun a o u q => h a _ q, fun a o q => ⟨o, h a o q⟩⟩
theorem Go.new (h : H p = none) : Go Z H (upd H p o) := (Go.same fun a u q => by rw [upd_ne (ne_of_none q h)]; exact q).lift
theorem Go.put (ha : a ∈ Z) (h : Mut (H a)) : Go Z H (upd H a o) where
  fr := fun b u q n => by rw [upd_ne fun e : b = a => n (by rw [e]; exact ha)]; exact q
  tk := fun b xs q => by rw [upd_ne fun e => by subst e; rw [q] at h; exact h]; exact q
  fk := fun b o u q => by rw [upd_ne fun e => by subst e; rw [q] at h; exact h]; exact q
  th := fun b u q => by
    by_cases e : b = a
    · subst e; exact ⟨_, upd_same⟩
    · exact ⟨u, by rw [upd_ne e]; exact q⟩
/-- a store to what is newer than H -/
theorem Go.late (x : Go Z H H1) (h : H p = none) : Go Z H (upd H1 p o) where
  fr := fun b u q n => by rw [upd_ne (ne_of_none q h)]; exact x.fr b u q n
  tk := fun b xs q => by rw [upd_ne (ne_of_none q h)]; exact x.tk b xs q
  fk := fun b o u q => by rw [upd_ne (ne_of_none q h)]; exact x.fk b o u q
  th := fun b u q => by rw [upd_ne (ne_of_none q h)]; exact x.th b u q
theorem Go.free (x : Go Z H H') (h : H' p = none) : H p = none := by
  cases q : H p with
  | none => rfl
  | some o =>
    obtain ⟨u, e⟩ := x.th p o q
    rw [h] at e; cases e
theorem Go.tup (x : Go Z H H') (h : SqT K H a xs) : SqT K H' a xs := by
  rcases h with (h | ⟨o, h⟩) | h
  · exact .inl (.inl (x.tk _ _ h))
  · exact .inl (.inr ⟨o, x.fk _ _ _ h⟩)
  · exact .inr h
theorem Go.seq (x : Go Z H H') (h : SqL K H a xs) (n : a ∉ Z) : SqL K H' a xs := by
  rcases h with (h | ⟨o, h⟩) | h
  · exact .inl (.inl (x.fr _ _ h n))
  · exact .inl (.inr ⟨o, x.fk _ _ _ h⟩)
  · exact .inr h
theorem Go.sam (x : Go [] H H') : Same H H' := fun b o h => x.at h
end
/-! ### values -/
def oV : Option Int → V
  | none => .non
  | some i => .int i
def TupIs (K : PySem.W.Frag) (H : Hp) (v : V) (xs : List V) : Prop := ∃ a, v = .ref a ∧ SqT K H a xs
theorem TupIs.go {Z : List Addr} {H H' : Hp} {K : PySem.W.Frag} {v : V} {xs : List V} (h : TupIs K H v xs) (g : Go Z H H') : TupIs K H' v xs := let ⟨a, e, q⟩ := h; ⟨a, e, g.tup q⟩
abbrev WdV (K : PySem.W.Frag) (H : Hp) (v : V) (w : Wd) : Prop := TupIs K H v (w.map V.int)
/-! ### dicts as maps -/
structure MapR {α : Type} (kvs : List (Key × V)) (f : Int → Option α) (R : α → V → Prop) : Prop where
  nd : (kvs.map (·.1)).Nodup
  snd : ∀ k v, valV kvs k = some v → ∃ b x, k = .inl b ∧ f b = some x ∧ R x v
  cpl : ∀ b x, f b = some x → ∃ v, valV kvs (.inl b) = some v
section
variable {α : Type} {kvs more : List (Key × V)} {f g : Int → Option α} {R R' : α → V → Prop} {b : Int} {x : α} {v : V}
theorem MapR.nil : MapR [] (fun _ => (none : Option α)) R := ⟨List.nodup_nil, fun k v h => (by cases h), fun b x h => (by cases h)⟩
theorem MapR.gets (m : MapR kvs f R) (h : f b = some x) : ∃ v, valV kvs (.inl b) = some v ∧ R x v := by
  obtain ⟨v, q⟩ := m.cpl b x h
  obtain ⟨b', x', e1, e2, r⟩ := m.snd _ _ q
  cases e1
  rw [h] at e2
  cases e2
  exact ⟨v, q, r⟩
theorem MapR.getn (m : MapR kvs f R) (h : f b = none) : valV kvs (.inl b) = none := by
  cases q : valV kvs (.inl b) with
  | none => rfl
  | some v =>
    obtain ⟨b', x', e1, e2, r⟩ := m.snd _ _ q
    cases e1
    rw [h] at e2
    cases e2
theorem MapR.isSome (m : MapR kvs f R) : (valV kvs (.inl b)).isSome = (f b).isSome := by
  cases h : f b with
  | none =>
    rw [m.getn h]
    rfl
  | some x =>
    obtain ⟨v, q, _⟩ := m.gets h
    rw [q] <;> rfl
theorem MapR.mono (m : MapR kvs f R) (h : ∀ b x v, f b = some x → R x v → R' x v) : MapR kvs f R' := ⟨m.nd, fun k v q => let ⟨b, x, e1, e2, r⟩ := m.snd k v q; ⟨b, x, e1, e2, h b x v e2 r⟩, m.cpl⟩
theorem MapR.congr (m : MapR kvs f R) (h : ∀ b, g b = f b) : MapR kvs g R := by
  have e : g = f := funext h
  rw [e]; exact m
theorem nd_put {κ : Type} [DecidableEq κ] {c : List (κ × V)} {k : κ} (v : V) (h : (c.map (·.1)).Nodup) : ((putK c k v).map (·.1)).Nodup := by
  cases q : valV c k with
  | none => exact nd_putK v h q
  | some u =>
    unfold putK
    rw [valV_any, q]
    have e : ((c.map fun kv => if kv.1 = k then (kv.1, v) else kv).map (·.1)) = c.map (·.1) := by
      rw [List.map_map]
      refine List.map_congr_left fun p _ => ?_
      show (if p.1 = k then (p.1, v) else p).1 = p.1
      split <;> rfl
    rw [if_pos (by rfl), e]
    exact h
theorem MapR.put (m : MapR kvs f R) (r : R x v) : MapR (putK kvs (.inl b) v) (setO f b (some x)) R where
  nd := nd_put v m.nd
  snd := fun k u q => by
    rw [valV_put] at q
    by_cases e : k = .inl b
    · rw [if_pos e] at q
      cases q
      exact ⟨b, x, e, setO_same, r⟩
    · rw [if_neg e] at q
      obtain ⟨b', x', e1, e2, r'⟩ := m.snd k u q
      exact ⟨b', x', e1, by rw [setO_ne fun z => e (by rw [e1, z])]; exact e2, r'⟩
  cpl := fun b' x' h => by
    rw [valV_put]
    by_cases e : b' = b
    · subst e
      exact ⟨v, if_pos rfl⟩
    · rw [setO_ne e] at h
      rw [if_neg fun z => e (Sum.inl.inj z)]
      exact m.cpl _ _ h
theorem valV_drop {κ : Type} [DecidableEq κ] (k j : κ) : ∀ c : List (κ × V), valV (dropK c k) j = if j = k then none else valV c j
  | [] => by
    show none = _
    split <;> rfl
  | p :: r => by
    have ih := valV_drop k j r
    by_cases e : p.1 = k
    · rw [dropK_pos e, ih]
      by_cases h : j = k
      · rw [if_pos h, if_pos h]
      · rw [if_neg h, if_neg h, valV_neg fun z => h (z.symm.trans e)]
    · rw [dropK_neg e]
      by_cases h : p.1 = j
      · rw [valV_pos h, valV_pos h, if_neg fun z => e (h.trans z)]
      · rw [valV_neg h, valV_neg h, ih]
theorem MapR.drop (m : MapR kvs f R) : MapR (dropK kvs (.inl b)) (setO f b none) R where
  nd := nd_dropK m.nd
  snd := fun k u q => by
    rw [valV_drop] at q
    by_cases e : k = .inl b
    · rw [if_pos e] at q
      cases q
    · rw [if_neg e] at q
      obtain ⟨b', x', e1, e2, r'⟩ := m.snd k u q
      exact ⟨b', x', e1, by rw [setO_ne fun z => e (by rw [e1, z])]; exact e2, r'⟩
  cpl := fun b' x' h => by
    rw [valV_drop]
    by_cases e : b' = b
    · subst e
      rw [setO_same] at h
      cases h
    · rw [setO_ne e] at h
      rw [if_neg fun z => e (Sum.inl.inj z)]
      exact m.cpl _ _ h
theorem MapR.at (m : MapR kvs f R) {i : Nat} {k : Key} (h : kvs[i]? = some (k, v)) : ∃ b x, k = .inl b ∧ f b = some x ∧ R x v :=
  m.snd k v (val_nodup m.nd (k, v) (List.mem_of_getElem? h))
theorem MapR.has (m : MapR kvs f R) (h : f b = some x) : ∃ (i : Nat) (v : V), kvs[i]? = some ((Sum.inl b : Key), v) := by
  obtain ⟨v, q, _⟩ := m.gets h
  unfold valV at q
  cases e : kvs.find? fun kv => decide (kv.1 = (.inl b : Key)) with
  | none => rw [e] at q; cases q
  | some p =>
    have h1 := List.find?_some e
    have h2 := List.mem_of_find?_eq_some e
    obtain ⟨i, hi⟩ := List.mem_iff_getElem?.mp h2
    obtain ⟨k, u⟩ := p
    have h3 : k = (Sum.inl b : Key) := of_decide_eq_true h1
    exact ⟨i, u, by rw [hi, h3] <;> rfl⟩
theorem MapR.len (m : MapR kvs f R) {n : Nat} (h : ∀ b x, f b = some x → 0 ≤ b ∧ b < n) : kvs.length ≤ n := by
  have q : (kvs.map (·.1)).length ≤ _ := nodup_le (l := kvs.map (·.1)) (m := (List.range n).map fun (i : Nat) => (Sum.inl (i : Int) : Key)) m.nd fun k hk => by
    obtain ⟨p, hp, e⟩ := List.mem_map.mp hk
    obtain ⟨b, x, e1, e2, _⟩ := m.snd p.1 p.2 (val_nodup m.nd p hp)
    obtain ⟨h1, h2⟩ := h b x e2
    refine List.mem_map.mpr ⟨b.toNat, List.mem_range.mpr (by omega), ?_⟩
    rw [← e, e1, Int.toNat_of_nonneg h1]
  simpa using q
theorem MapR.merge : ∀ {more kvs : List (Key × V)} {f g : Int → Option α}, MapR kvs f R → MapR more g R → MapR (mergeK kvs more) (fun b => match g b with | some y => some y | none => f b) R
  | [], kvs, f, g, m, m2 => m.congr fun b => by
    cases q : g b with
    | none => rfl
    | some y =>
      obtain ⟨v, z⟩ := m2.cpl b y q
      cases z
  | (k, v) :: r, kvs, f, g, m, m2 => by
    have hk : valV ((k, v) :: r) k = some v := valV_pos (p := (k, v)) rfl
    obtain ⟨b0, x0, e1, e2, r0⟩ := m2.snd k v hk
    subst e1
    have nd2 := List.nodup_cons.mp (show (((.inl b0 : Key)) :: r.map (·.1)).Nodup from m2.nd)
    have hn : valV r (.inl b0) = none := by
      cases q : valV r (.inl b0) with
      | none => rfl
      | some u => exact absurd (valV_in q) nd2.1
    have m3 : MapR r (setO g b0 none) R := ⟨nd2.2, fun k u q => by
      have ne : ¬ (.inl b0 : Key) = k := fun z => by rw [← z, hn] at q; cases q
      obtain ⟨b', x', e1, e2, r'⟩ := m2.snd k u (by rw [valV_neg (p := ((Sum.inl b0 : Key), v)) ne]; exact q)
      exact ⟨b', x', e1, by rw [setO_ne fun z => ne (by rw [e1, z])]; exact e2, r'⟩, fun b' x' q => by
      by_cases e : b' = b0
      · subst e; rw [setO_same] at q; cases q
      · rw [setO_ne e] at q
        obtain ⟨u, z⟩ := m2.cpl b' x' q
        rw [valV_neg (p := ((Sum.inl b0 : Key), v)) fun y => e (Sum.inl.inj y).symm] at z
        exact ⟨u, z⟩⟩
    have q := MapR.merge (more := r) (kvs := putK kvs (.inl b0) v) (m.put r0) m3
    refine MapR.congr (kvs := mergeK (putK kvs (.inl b0) v) r) q fun b => ?_
    by_cases e : b = b0
    · subst e
      rw [setO_same, setO_same, e2]
    · rw [setO_ne e, setO_ne e]
end
end SH

set_option Elab.async false
set_option linter.all false
set_option maxRecDepth 100000
set_option maxHeartbeats 4000000
namespace SH
open PySem PySem.Spec PyProof.Rows L2
section
variable {K : PySem.W.Frag} {H : Hp} {Q : VK}
theorem isi {x : V} {t T : String} (b : Bool) (ty : TyX K H x (.type t)) (e : kitB t T = some b) (q : Q (.bl b) H) : rIsi K [x, .ty T] H Q := ⟨_, _, _, _, b, rfl, .ty T, ty, kit_ty e, q⟩
theorem ty_tup {a : Addr} {xs : List V} (h : SqT K H a xs) : TyX K H (.ref a) (.type "tuple") := by
  rcases h with (h | ⟨o, h⟩) | ⟨o, its, n, h, c, _⟩
  · exact .base (.tup h)
  · exact .fTuple h
  · exact .kTuple h c
theorem isi_ii {i : Int} (q : Q (.bl true) H) : rIsi K [.int i, .ty "int"] H Q := isi true (.base (.int i)) (by decide +kernel) q
end
/-! ### comprehensions -/
theorem lc_go {Z : List Addr} {J : It} {n : Nat} {G : Hp → Prop} {Yx : Nat → V → Prop} {g : TG} {tt : TT} {te : TE} {vs : List Nat} {σ : L2.St} {H1 : Hp} {Qd : Addr → Hp → Prop} (R : Nat → List V → Hp → Prop)
    (w : Walk J n G (fun i H x H' => H' = H ∧ Yx i x)) (hn : n ≤ sizeLine) (hZ : ∀ a ∈ Z, ∃ o, H1 a = some o) (hG : ∀ H, Go Z H1 H → G H)
    (h0 : ∀ H, Go Z H1 H → R 0 [] H) (stab : ∀ i acc D H H', H1 D = none → R i acc H → Go [D] H H' → R i acc H')
    (step : ∀ i x acc H, i < n → Yx i x → acc.length ≤ i → Go Z H1 H → R i acc H → ∀ (K1 : VK) (K2 : Hp → Prop), (∀ y H4, Go Z H H4 → R (i + 1) (acc ++ [y]) H4 → K1 y H4) → (∀ H3, Go Z H H3 → R (i + 1) acc H3 → K2 H3) →
      g x (wipe σ vs) H fun σ2 H2 => wipe σ2 vs = wipe σ vs ∧ tt σ2 H2 fun b H3 => if b = true then te σ2 H3 K1 else K2 H3)
    (fin : ∀ D acc H, H1 D = none → Go Z H1 H → H D = some (.lst acc) → acc.length ≤ n → R n acc H → Qd D H) :
    ∀ D, H1 D = none → ∃ W : Nat → Nat → Hp → Prop, (∃ m, W 0 m (upd H1 D (.lst []))) ∧ ∀ i m H, W i m H →
      (J.stop i H ∧ Qd D H) ∨ (J.go i H ∧ ∃ Nx : Hp → Prop, (∀ H', Nx H' → ∃ m', m' < m ∧ W (i + 1) m' H') ∧ ∀ x H', J.yld i H x H' → g x (wipe σ vs) H' fun σ2 H2 => wipe σ2 vs = wipe σ vs ∧ tt σ2 H2 fun b H3 =>
        if b = true then te σ2 H3 fun y H4 => ∃ acc, H4 D = some (.lst acc) ∧ acc.length < sizeLine ∧ Nx (upd H4 D (.lst (acc ++ [y]))) else Nx H3) := by
  intro D hD
  have nZ : D ∉ Z := fun m => by
    obtain ⟨o, e⟩ := hZ D m
    rw [hD] at e; cases e
  refine lc_it w (fun i H => Go Z H1 H ∧ ∃ acc, H D = some (.lst acc) ∧ acc.length ≤ i ∧ R i acc H) ⟨Go.new hD, [], upd_same, Nat.le_refl _, h0 _ (Go.new hD)⟩ (fun i H _ p => hG H p.1) ?_ ?_
  · rintro i x H H' hi ⟨g1, acc, ha, hl, r⟩ ⟨e, y⟩
    subst e
    refine step i x acc H' hi y hl g1 r (fun y H4 => ∃ acc, H4 D = some (.lst acc) ∧ acc.length < sizeLine ∧ Go Z H1 (upd H4 D (.lst (acc ++ [y]))) ∧ ∃ acc', upd H4 D (.lst (acc ++ [y])) D = some (.lst acc') ∧ acc'.length ≤ i + 1 ∧ R (i + 1) acc' (upd H4 D (.lst (acc ++ [y])))) (fun H3 => Go Z H1 H3 ∧ ∃ acc, H3 D = some (.lst acc) ∧ acc.length ≤ i + 1 ∧ R (i + 1) acc H3) ?_ ?_
    · intro y H4 g2 r2
      have ha4 := g2.fr _ _ ha nZ
      have hl2 : (acc ++ [y]).length ≤ i + 1 := by rw [List.length_append]; simp; omega
      exact ⟨acc, ha4, by omega, (g1.trans g2).late hD, acc ++ [y], upd_same, hl2, stab _ _ D _ _ hD r2 (Go.put List.mem_cons_self (by rw [ha4]; trivial))⟩
    · intro H3 g2 r2
      exact ⟨g1.trans g2, acc, g2.fr _ _ ha nZ, Nat.le_succ_of_le hl, r2⟩
  · rintro H ⟨g1, acc, ha, hl, r⟩
    exact fin D acc H hD g1 ha hl r
section
variable {K : PySem.W.Frag} {a : Addr} {xs : List V} {o : Obj} {kvs : List (Key × V)} {lo : Int} {n : Nat}
theorem wk_tup : Walk (Itt K a) xs.length (fun H => SqT K H a xs) (fun i H x H' => H' = H ∧ xs[i]? = some x) := walk_tup
theorem wk_list : Walk (Itl K a) xs.length (fun H => SqL K H a xs) (fun i H x H' => H' = H ∧ xs[i]? = some x) := walk_list
theorem wk_keys {d : Addr} : Walk (Itk d o kvs) kvs.length (fun H => H d = some (.frz o (.dK kvs))) (fun i H x H' => H' = H ∧ ∃ k v, kvs[i]? = some (k, v) ∧ x = kV k) := walk_keys
theorem wk_range : Walk (Itr lo n) n (fun _ => True) (fun i H x H' => H' = H ∧ x = .int (lo + i)) := walk_range
theorem no_z {H1 : Hp} : ∀ a ∈ ([] : List Addr), ∃ o, H1 a = some o := fun _ h => nomatch h
end
section
variable {H : Hp} {Q : VK}
theorem bT {p : Prop} [Decidable p] (h : p) : V.bl (decide p) = .bl true := congrArg V.bl (decide_eq_true h)
theorem bF {p : Prop} [Decidable p] (h : ¬ p) : V.bl (decide p) = .bl false := congrArg V.bl (decide_eq_false h)
theorem bN {p : Prop} [Decidable p] (h : p) : V.bl (!decide p) = .bl false := congrArg (fun b => V.bl (!b)) (decide_eq_true h)
theorem bNF {p : Prop} [Decidable p] (h : ¬ p) : V.bl (!decide p) = .bl true := congrArg (fun b => V.bl (!b)) (decide_eq_false h)
theorem qT {p : Prop} [Decidable p] (h : p) (q : Q (.bl true) H) : Q (.bl (decide p)) H := by rw [bT h]; exact q
theorem qF {p : Prop} [Decidable p] (h : ¬ p) (q : Q (.bl false) H) : Q (.bl (decide p)) H := by rw [bF h]; exact q
theorem qB {b c : Bool} (e : b = c) (q : Q (.bl c) H) : Q (.bl b) H := by rw [e]; exact q
theorem map_at {w : List Int} {i : Nat} {x : V} (h : (w.map V.int)[i]? = some x) : ∃ j, w[i]? = some j ∧ x = .int j := by
  rw [List.getElem?_map] at h
  cases e : w[i]? with
  | none => rw [e] at h; cases h
  | some j => rw [e] at h; exact ⟨j, rfl, (Option.some.inj h).symm⟩
theorem map_get {w : List Int} {i : Nat} {j : Int} (h : w[i]? = some j) : (w.map V.int)[i]? = some (.int j) := by rw [List.getElem?_map, h] <;> rfl
end
theorem le_sl {n : Nat} (h : n ≤ 1000) : n ≤ sizeLine := Nat.le_trans h (by decide)
theorem lt_sl {n : Nat} (h : n ≤ 1000) : n < sizeLine := Nat.lt_of_le_of_lt h (by decide)
end SH

set_option Elab.async false
set_option linter.all false
set_option maxRecDepth 100000
set_option maxHeartbeats 4000000
namespace SH
open PySem PySem.Spec PyProof.Rows L2
def sp_is_number (K : PySem.W.Frag) : Sp := fun vs H Q _ => vs.length = 1 ∧ ∃ i, vs = [.int i] ∧ Q (.bl true) H
section
variable {P : Program} {w : World} {K : PySem.W.Frag} {mg : Str → Option Value} {base : Heap}
theorem ok_is_number (T : Txt w K mg)  : C8.Cal P w K mg base 1 "is_number" (sp_is_number K) [] := by
  refine cal_go T.f_is_number T.o_is_number sc_is_number (fun _ _ _ _ _ _ us hl => match us, hl with | [_], _ => rfl) (fun _ _ _ _ h => h.1) fun cdv A outer s H vs Q E hr h => ?_
  refine ⟨_, (pss_one (ps_ret (pe_and (pe_callB (show CallR _ _ (rIsi K) from call_isi) (by rfl) T.b_isinstance (by decide +kernel) (pa_cons (pv 0) (pa_cons (pe_bltn (v := .ty "int") (by rfl) T.b_int (by decide +kernel) rfl) pa_nil))) (pe_one (pe_not (pe_callB (show CallR _ _ (rIsi K) from call_isi) (by rfl) T.b_isinstance (by decide +kernel) (pa_cons (pv 0) (pa_cons (pe_bltn (v := .ty "bool") (by rfl) T.b_bool (by decide +kernel) rfl) pa_nil)))))))), ?_⟩
  obtain ⟨_, i, rfl, q⟩ := h
  refine ⟨_, rfl, _, _, _, _, true, rfl, .ty _, .base (.int i), kit_ty (by decide +kernel), true, rfl, iteT ⟨_, rfl, _, _, _, _, false, rfl, .ty _, .base (.int i), kit_ty (by decide +kernel), _, rfl, q⟩⟩
end
def Wok (i : Int) : Prop := 0 ≤ i ∧ i ≤ 4294967295
def sp_is_word (K : PySem.W.Frag) : Sp := fun vs H Q _ => vs.length = 1 ∧ ∃ i, vs = [.int i] ∧ Wok i ∧ Q (.bl true) H
section
variable {P : Program} {w : World} {K : PySem.W.Frag} {mg : Str → Option Value} {base : Heap}
theorem ok_is_word (T : Txt w K mg) (c_is_number : C8.Cal P w K mg base 1 "is_number" (sp_is_number K) []) : C8.Cal P w K mg base 2 "is_word" (sp_is_word K) [] := by
  refine cal_go T.f_is_word T.o_is_word sc_is_word (fun _ _ _ _ _ _ us hl => match us, hl with | [_], _ => rfl) (fun _ _ _ _ h => h.1) fun cdv A outer s H vs Q E hr h => ?_
  refine ⟨_, (pss_one (ps_ret (pe_and (C8.pe_c c_is_number hr (by decide) (by rfl) (pa_cons (pv 0) pa_nil)) (pe_one (pe_chain op_le op_le pe_int (pv 0) (C8.pe_gc (by rfl) T.g_TOP)))))), ?_⟩
  obtain ⟨_, i, rfl, hw, q⟩ := h
  refine ⟨_, rfl, rfl, i, rfl, ⟨true, rfl, iteT ?_⟩⟩
  refine ⟨_, rfl, 0, i, rfl, rfl, true, bT hw.1, iteT ⟨i, 4294967295, rfl, rfl, qT hw.2 q⟩⟩
end
def sp_is_words (K : PySem.W.Frag) : Sp := fun vs H Q _ => vs.length = 1 ∧ ∃ v w, vs = [v] ∧ WdV K H v w ∧ Okw w ∧ ∀ H', Go [] H H' → Q (.bl true) H'
section
variable {P : Program} {w : World} {K : PySem.W.Frag} {mg : Str → Option Value} {base : Heap}
theorem ok_is_words (T : Txt w K mg) (c_is_word : C8.Cal P w K mg base 2 "is_word" (sp_is_word K) []) : C8.Cal P w K mg base 3 "is_words" (sp_is_words K) [] := by
  refine cal_go T.f_is_words T.o_is_words sc_is_words (fun _ _ _ _ _ _ us hl => match us, hl with | [_], _ => rfl) (fun _ _ _ _ h => h.1) fun cdv A outer s H vs Q E hr h => ?_
  refine ⟨_, (pss_one (ps_ret (pe_and (pe_callB (show CallR _ _ (rIsi K) from call_isi) (by rfl) T.b_isinstance (by decide +kernel) (pa_cons (pv 0) (pa_cons (pe_bltn (v := .ty "tuple") (by rfl) T.b_tuple (by decide +kernel) rfl) pa_nil))) (pe_and (pe_cmpR op_eq (pe_callB (show CallR _ _ (rLen K) from call_len) (by rfl) T.b_len PySem.boot_len (pa_cons (pv 0) pa_nil)) (C8.pe_gc (by rfl) T.g_WORDS) (nomark _)) (pe_one (pe_callB (cr_all rfl) (by rfl) T.b_all (by decide +kernel) (pa_cons (pe_lc (own := [("word", 1)]) rfl sc_is_words.nd (pi_tup (pv 0)) (blkOk_by (own := [("word", 1)]) (N := n_is_words) (sc := defScope s_is_words) (by decide +kernel)) (fun _ _ _ _ _ => (pg_name (i := 1) sc_is_words.nd rfl (by first | exact Or.inl rfl | exact Or.inr rfl))) (fun _ _ _ _ _ => pts_nil) (fun _ _ _ _ _ => (C8.pe_c c_is_word hr (by decide) (by rfl) (pa_cons (pv 1) pa_nil)))) pa_nil))))))), ?_⟩
  obtain ⟨_, v, w, rfl, ⟨a, rfl, ha⟩, hw, q⟩ := h
  refine ⟨_, rfl, ?_⟩
  refine ⟨_, _, _, _, true, rfl, .ty _, ty_tup ha, kit_ty (by decide +kernel), true, rfl, iteT ?_⟩
  refine ⟨_, rfl, _, 8, rfl, .inr ⟨_, ha, by rw [List.length_map, hw.1]⟩, rfl, true, rfl, iteT ?_⟩
  refine ⟨_, rfl, a, rfl, ⟨_, ha⟩, ?_⟩
  refine lc_go (Z := []) (fun i acc _ => acc = (List.replicate i true).map V.bl) wk_tup (by rw [List.length_map, hw.1]; decide) no_z (fun H' g => g.tup ha) (fun _ _ => rfl) (fun _ _ _ _ _ _ h _ => h) ?_ ?_
  · intro i x acc H' hi hx hl g hR K1 K2 k1 k2
    obtain ⟨j, hj, rfl⟩ := map_at hx
    refine ⟨rfl, _, rfl, rfl, j, rfl, hw.2 j (List.mem_of_getElem? hj), k1 _ _ Go.refl ?_⟩
    rw [hR, List.replicate_succ', List.map_append] <;> rfl
  · intro D acc H' hD g hacc hl hR
    subst hR
    refine ⟨D, _, rfl, .inl (.inl hacc), qB ?_ (q _ g)⟩
    rw [List.all_replicate]
    simp
end
def sp_is_block (K : PySem.W.Frag) : Sp := fun vs H Q _ => vs.length = 2 ∧ ∃ x n, vs = [.int x, .int n] ∧ Q (.bl (decide (4 ≤ x ∧ x < n))) H
section
variable {P : Program} {w : World} {K : PySem.W.Frag} {mg : Str → Option Value} {base : Heap}
theorem ok_is_block (T : Txt w K mg)  : C8.Cal P w K mg base 1 "is_block" (sp_is_block K) [] := by
  refine cal_go T.f_is_block T.o_is_block sc_is_block (fun _ _ _ _ _ _ us hl => match us, hl with | [_, _], _ => rfl) (fun _ _ _ _ h => h.1) fun cdv A outer s H vs Q E hr h => ?_
  refine ⟨_, (pss_one (ps_ret (pe_chain op_le op_lt (C8.pe_gc (by rfl) T.g_ENVIRONMENTS) (pv 0) (pv 1)))), ?_⟩
  obtain ⟨_, x, n, rfl, q⟩ := h
  refine ⟨_, rfl, 4, x, rfl, rfl, _, rfl, ?_⟩
  by_cases h4 : 4 ≤ x
  · rw [decide_eq_true h4]
    refine iteT ⟨_, rfl, x, n, rfl, rfl, qB ?_ q⟩
    simp [h4]
  · rw [decide_eq_false h4]
    refine iteF (qB ?_ q)
    simp [h4]
end
def sp_is_index (K : PySem.W.Frag) : Sp := fun vs H Q _ => vs.length = 1 ∧ ∃ i, vs = [.int i] ∧ (0 ≤ i ∧ i < 8) ∧ Q (.bl true) H
section
variable {P : Program} {w : World} {K : PySem.W.Frag} {mg : Str → Option Value} {base : Heap}
theorem ok_is_index (T : Txt w K mg) (c_is_number : C8.Cal P w K mg base 1 "is_number" (sp_is_number K) []) : C8.Cal P w K mg base 2 "is_index" (sp_is_index K) [] := by
  refine cal_go T.f_is_index T.o_is_index sc_is_index (fun _ _ _ _ _ _ us hl => match us, hl with | [_], _ => rfl) (fun _ _ _ _ h => h.1) fun cdv A outer s H vs Q E hr h => ?_
  refine ⟨_, (pss_one (ps_ret (pe_and (C8.pe_c c_is_number hr (by decide) (by rfl) (pa_cons (pv 0) pa_nil)) (pe_one (pe_chain op_le op_lt pe_int (pv 0) (C8.pe_gc (by rfl) T.g_WORDS)))))), ?_⟩
  obtain ⟨_, i, rfl, hw, q⟩ := h
  refine ⟨_, rfl, rfl, i, rfl, ⟨true, rfl, iteT ?_⟩⟩
  refine ⟨_, rfl, 0, i, rfl, rfl, true, bT hw.1, iteT ⟨i, 8, rfl, rfl, qT hw.2 q⟩⟩
end
def sp_no (K : PySem.W.Frag) : Sp := fun vs H Q _ => vs.length = 1 ∧ ∃ z, vs = [.str z] ∧ ∀ p H', TupIs K H' (.ref p) [.str "no", .str z] → Go [] H H' → Q (.ref p) H'
section
variable {P : Program} {w : World} {K : PySem.W.Frag} {mg : Str → Option Value} {base : Heap}
theorem ok_no (T : Txt w K mg)  : C8.Cal P w K mg base 1 "no" (sp_no K) [] := by
  refine cal_go T.f_no T.o_no sc_no (fun _ _ _ _ _ _ us hl => match us, hl with | [_], _ => rfl) (fun _ _ _ _ h => h.1) fun cdv A outer s H vs Q E hr h => ?_
  refine ⟨_, (pss_one (ps_ret (pe_tup (pa_cons pe_str (pa_cons (pv 0) pa_nil))))), ?_⟩
  obtain ⟨_, z, rfl, q⟩ := h
  refine ⟨_, rfl, (by decide : 2 ≤ sizeLine), fun p hp => ?_⟩
  exact q p _ ⟨p, rfl, .inl (.inl upd_same)⟩ (Go.new hp)
end
def sp_is_guard (K : PySem.W.Frag) : Sp := fun vs H Q _ => vs.length = 1 ∧ ∃ v i m x, vs = [v] ∧ TupIs K H v [.int i, .int m, .int x] ∧ (0 ≤ i ∧ i < 8) ∧ Wok m ∧ Wok x ∧ Q (.bl true) H
section
variable {P : Program} {w : World} {K : PySem.W.Frag} {mg : Str → Option Value} {base : Heap}
theorem ok_is_guard (T : Txt w K mg) (c_is_index : C8.Cal P w K mg base 2 "is_index" (sp_is_index K) []) (c_is_word : C8.Cal P w K mg base 2 "is_word" (sp_is_word K) []) : C8.Cal P w K mg base 3 "is_guard" (sp_is_guard K) [] := by
  refine cal_go T.f_is_guard T.o_is_guard sc_is_guard (fun _ _ _ _ _ _ us hl => match us, hl with | [_], _ => rfl) (fun _ _ _ _ h => h.1) fun cdv A outer s H vs Q E hr h => ?_
  refine ⟨_, (pss_cons (ps_if (PW.pt (pw_or (pt_not (pt_val (pe_callB (show CallR _ _ (rIsi K) from call_isi) (by rfl) T.b_isinstance (by decide +kernel) (pa_cons (pv 0) (pa_cons (pe_bltn (v := .ty "tuple") (by rfl) T.b_tuple (by decide +kernel) rfl) pa_nil))))) (pw_or1 (pt_cmpR op_ne (pe_callB (show CallR _ _ (rLen K) from call_len) (by rfl) T.b_len PySem.boot_len (pa_cons (pv 0) pa_nil)) pe_int (nomark _))))) (pss_one (ps_ret pe_bl)) pss_nil)
    (pss_one (ps_ret (pe_and (C8.pe_c c_is_index hr (by decide) (by rfl) (pa_cons (pe_ix (show IxR _ (rIxT K) from ix_tup) (pv 0) pe_int (fun _ _ => rfl)) pa_nil)) (pe_and (C8.pe_c c_is_word hr (by decide) (by rfl) (pa_cons (pe_ix (show IxR _ (rIxT K) from ix_tup) (pv 0) pe_int (fun _ _ => rfl)) pa_nil)) (pe_one (C8.pe_c c_is_word hr (by decide) (by rfl) (pa_cons (pe_ix (show IxR _ (rIxT K) from ix_tup) (pv 0) pe_int (fun _ _ => rfl)) pa_nil)))))))), ?_⟩
  obtain ⟨_, v, i, m, x, rfl, ⟨a, rfl, ha⟩, hi, hm, hx, q⟩ := h
  refine ⟨_, rfl, _, _, _, _, true, rfl, .ty _, ty_tup ha, kit_ty (by decide +kernel), true, rfl, iteF ?_⟩
  refine ⟨_, rfl, _, 3, rfl, .inr ⟨_, ha, rfl⟩, rfl, false, rfl, iteF ?_⟩
  refine ⟨_, rfl, _, _, 0, _, rfl, rfl, ha, rfl, rfl, i, rfl, hi, true, rfl, iteT ?_⟩
  refine ⟨_, rfl, _, _, 1, _, rfl, rfl, ha, rfl, rfl, m, rfl, hm, true, rfl, iteT ?_⟩
  exact ⟨_, rfl, _, _, 2, _, rfl, rfl, ha, rfl, rfl, x, rfl, hx, q⟩
end
def sp_is_many (K : PySem.W.Frag) : Sp := fun vs H Q _ => vs.length = 2 ∧ ∃ i j, vs = [.int i, .int j] ∧ (1 ≤ i ∧ i ≤ 8 - j) ∧ Q (.bl true) H
section
variable {P : Program} {w : World} {K : PySem.W.Frag} {mg : Str → Option Value} {base : Heap}
theorem ok_is_many (T : Txt w K mg) (c_is_index : C8.Cal P w K mg base 2 "is_index" (sp_is_index K) []) (c_is_number : C8.Cal P w K mg base 1 "is_number" (sp_is_number K) []) : C8.Cal P w K mg base 3 "is_many" (sp_is_many K) [] := by
  refine cal_go T.f_is_many T.o_is_many sc_is_many (fun _ _ _ _ _ _ us hl => match us, hl with | [_, _], _ => rfl) (fun _ _ _ _ h => h.1) fun cdv A outer s H vs Q E hr h => ?_
  refine ⟨_, (pss_cons (ps_if (pt_val (pe_callB (show CallR _ _ (rIsi K) from call_isi) (by rfl) T.b_isinstance (by decide +kernel) (pa_cons (pv 0) (pa_cons (pe_bltn (v := .ty "tuple") (by rfl) T.b_tuple (by decide +kernel) rfl) pa_nil)))) (pss_one (ps_ret (pe_and (pe_cmpR op_eq (pe_callB (show CallR _ _ (rLen K) from call_len) (by rfl) T.b_len PySem.boot_len (pa_cons (pv 0) pa_nil)) pe_int (nomark _)) (pe_and (pe_cmpR op_eq (pe_ix (show IxR _ (rIx K) from ix_seq) (pv 0) pe_int (fun _ _ => rfl)) pe_str (nomark _)) (pe_one (C8.pe_c c_is_index hr (by decide) (by rfl) (pa_cons (pe_ix (show IxR _ (rIx K) from ix_seq) (pv 0) pe_int (fun _ _ => rfl)) pa_nil))))))) pss_nil)
    (pss_one (ps_ret (pe_and (C8.pe_c c_is_number hr (by decide) (by rfl) (pa_cons (pv 0) pa_nil)) (pe_one (pe_chain op_le op_le pe_int (pv 0) (pe_op op_sub (C8.pe_gc (by rfl) T.g_WORDS) (pv 1)))))))), ?_⟩
  obtain ⟨_, i, j, rfl, hi, q⟩ := h
  refine ⟨_, rfl, _, _, _, _, false, rfl, .ty _, .base (.int i), kit_ty (by decide +kernel), false, rfl, iteF ?_⟩
  refine ⟨_, rfl, rfl, i, rfl, true, rfl, iteT ?_⟩
  refine ⟨_, rfl, 1, i, rfl, rfl, true, bT hi.1, iteT ⟨_, rfl, 8, j, rfl, rfl, i, 8 - j, rfl, rfl, qT hi.2 q⟩⟩
end
/-! ### programs of types -/
/-- a clause: guards, start, many, kind (none: its own) -/
structure Cl where
  gs : List (Int × Int × Int)
  st : Int
  mn : Int
  kd : Option Int
def Cl.ok (c : Cl) : Prop := c.gs.length ≤ 4 ∧ (∀ g ∈ c.gs, (0 ≤ g.1 ∧ g.1 < 8) ∧ Wok g.2.1 ∧ Wok g.2.2) ∧ (0 ≤ c.st ∧ c.st < 8) ∧ (1 ≤ c.mn ∧ c.mn ≤ 8 - c.st) ∧ (c.kd = none ∨ c.kd = some 0) ∧ c.mn ≤ 4
def GuV (K : PySem.W.Frag) (H : Hp) (v : V) (g : Int × Int × Int) : Prop := TupIs K H v [.int g.1, .int g.2.1, .int g.2.2]
def kdV : Option Int → V
  | none => .str "own"
  | some k => .int k
def ClV (K : PySem.W.Frag) (H : Hp) (v : V) (c : Cl) : Prop := ∃ gt gs, TupIs K H v [gt, .int c.st, .int c.mn, kdV c.kd] ∧ TupIs K H gt gs ∧ Paired (GuV K H) gs c.gs
def PrV (K : PySem.W.Frag) (H : Hp) (v : V) (cs : List Cl) : Prop := ∃ vs, TupIs K H v vs ∧ Paired (ClV K H) vs cs
theorem paired_at {α β : Type} {F : α → β → Prop} : ∀ {l : List α} {m : List β} {i : Nat} {x : α}, Paired F l m → l[i]? = some x → ∃ y, m[i]? = some y ∧ F x y
  | _, _, _, _, .nil, h => by simp at h
  | _, _, 0, _, .cons r _, h => ⟨_, rfl, by simp at h; subst h; exact r⟩
  | _, _, i + 1, x, .cons _ t, h => by simpa using paired_at (i := i) (x := x) t (by simpa using h)
theorem GuV.go {Z : List Addr} {K : PySem.W.Frag} {H H' : Hp} {v : V} {g : Int × Int × Int} (h : GuV K H v g) (x : Go Z H H') : GuV K H' v g := TupIs.go h x
theorem ClV.go {Z : List Addr} {K : PySem.W.Frag} {H H' : Hp} {v : V} {c : Cl} (h : ClV K H v c) (x : Go Z H H') : ClV K H' v c := by
  obtain ⟨gt, gs, h1, h2, h3⟩ := h
  exact ⟨gt, gs, h1.go x, h2.go x, Paired.mapP h3 fun a b q => q.go x⟩
theorem PrV.go {Z : List Addr} {K : PySem.W.Frag} {H H' : Hp} {v : V} {c : List Cl} (h : PrV K H v c) (x : Go Z H H') : PrV K H' v c := by
  obtain ⟨gs, h1, h3⟩ := h
  exact ⟨gs, h1.go x, Paired.mapP h3 fun a b q => q.go x⟩
def sp_is_clause (K : PySem.W.Frag) : Sp := fun vs H Q _ => vs.length = 2 ∧ ∃ v n c, vs = [v, .int n] ∧ ClV K H v c ∧ c.ok ∧ ∀ H', Go [] H H' → Q (.bl true) H'
section
variable {P : Program} {w : World} {K : PySem.W.Frag} {mg : Str → Option Value} {base : Heap}
theorem ok_is_clause (T : Txt w K mg) (c_is_guard : C8.Cal P w K mg base 3 "is_guard" (sp_is_guard K) []) (c_is_index : C8.Cal P w K mg base 2 "is_index" (sp_is_index K) []) (c_is_many : C8.Cal P w K mg base 3 "is_many" (sp_is_many K) []) (c_is_number : C8.Cal P w K mg base 1 "is_number" (sp_is_number K) []) : C8.Cal P w K mg base 4 "is_clause" (sp_is_clause K) [] := by
  refine cal_go T.f_is_clause T.o_is_clause sc_is_clause (fun _ _ _ _ _ _ us hl => match us, hl with | [_, _], _ => rfl) (fun _ _ _ _ h => h.1) fun cdv A outer s H vs Q E hr h => ?_
  refine ⟨_, (pss_cons (ps_if (PW.pt (pw_or (pt_not (pt_val (pe_callB (show CallR _ _ (rIsi K) from call_isi) (by rfl) T.b_isinstance (by decide +kernel) (pa_cons (pv 0) (pa_cons (pe_bltn (v := .ty "tuple") (by rfl) T.b_tuple (by decide +kernel) rfl) pa_nil))))) (pw_or (pt_cmpR op_ne (pe_callB (show CallR _ _ (rLen K) from call_len) (by rfl) T.b_len PySem.boot_len (pa_cons (pv 0) pa_nil)) pe_int (nomark _)) (pw_or1 (pt_not (pt_val (pe_callB (show CallR _ _ (rIsi K) from call_isi) (by rfl) T.b_isinstance (by decide +kernel) (pa_cons (pe_ix (show IxR _ (rIxT K) from ix_tup) (pv 0) pe_int (fun _ _ => rfl)) (pa_cons (pe_bltn (v := .ty "tuple") (by rfl) T.b_tuple (by decide +kernel) rfl) pa_nil))))))))) (pss_one (ps_ret pe_bl)) pss_nil)
    (pss_cons (ps_asg (pv 0) (pg_tupK K (n := 4) rfl rfl (pgs_cons (pg_name (i := 2) sc_is_clause.nd rfl (by first | exact Or.inl rfl | exact Or.inr rfl)) (pgs_cons (pg_name (i := 3) sc_is_clause.nd rfl (by first | exact Or.inl rfl | exact Or.inr rfl)) (pgs_cons (pg_name (i := 4) sc_is_clause.nd rfl (by first | exact Or.inl rfl | exact Or.inr rfl)) (pgs_cons (pg_name (i := 5) sc_is_clause.nd rfl (by first | exact Or.inl rfl | exact Or.inr rfl)) pgs_nil))))))
    (pss_cons (ps_if (PW.pt (pw_or (pt_cmpR op_gt (pe_callB (show CallR _ _ (rLen K) from call_len) (by rfl) T.b_len PySem.boot_len (pa_cons (pv 2) pa_nil)) (C8.pe_gc (by rfl) T.g_MOST_GUARDS) (nomark _)) (pw_or1 (pt_not (pt_val (pe_callB (cr_all rfl) (by rfl) T.b_all (by decide +kernel) (pa_cons (pe_lc (own := [("guard", 6)]) rfl sc_is_clause.nd (pi_tup (pv 2)) (blkOk_by (own := [("guard", 6)]) (N := n_is_clause) (sc := defScope s_is_clause) (by decide +kernel)) (fun _ _ _ _ _ => (pg_name (i := 6) sc_is_clause.nd rfl (by first | exact Or.inl rfl | exact Or.inr rfl))) (fun _ _ _ _ _ => pts_nil) (fun _ _ _ _ _ => (C8.pe_c c_is_guard hr (by decide) (by rfl) (pa_cons (pv 6) pa_nil)))) pa_nil))))))) (pss_one (ps_ret pe_bl)) pss_nil)
    (pss_cons (ps_if (PW.pt (pw_or (pt_not (pt_val (C8.pe_c c_is_index hr (by decide) (by rfl) (pa_cons (pv 3) pa_nil)))) (pw_or1 (pt_not (pt_val (C8.pe_c c_is_many hr (by decide) (by rfl) (pa_cons (pv 4) (pa_cons (pv 3) pa_nil)))))))) (pss_one (ps_ret pe_bl)) pss_nil)
    (pss_cons (ps_if (pt_val (pe_callB (show CallR _ _ (rIsi K) from call_isi) (by rfl) T.b_isinstance (by decide +kernel) (pa_cons (pv 5) (pa_cons (pe_bltn (v := .ty "str") (by rfl) T.b_str (by decide +kernel) rfl) pa_nil)))) (pss_one (ps_ret (pe_cmpR op_eq (pv 5) (C8.pe_gc (by rfl) T.g_OWN) (nomark _)))) pss_nil)
    (pss_one (ps_ret (pe_and (C8.pe_c c_is_number hr (by decide) (by rfl) (pa_cons (pv 5) pa_nil)) (pe_one (pe_or (pe_cmpR op_eq (pv 5) (C8.pe_gc (by rfl) T.g_DATA) (nomark _)) (pe_one (pe_chain op_le op_lt (C8.pe_gc (by rfl) T.g_FIRST_TYPE) (pv 5) (pv 1))))))))))))), ?_⟩
  obtain ⟨_, v, n, c, rfl, ⟨gt, gs, ⟨a, rfl, ha⟩, ⟨b, rfl, hb⟩, hg⟩, hc, q⟩ := h
  obtain ⟨hc1, hc2, hc3, hc4, hc5, _⟩ := hc
  have hgl : gs.length = c.gs.length := hg.length
  refine ⟨_, rfl, _, _, _, _, true, rfl, .ty _, ty_tup ha, kit_ty (by decide +kernel), true, rfl, iteF ?_⟩
  refine ⟨_, rfl, _, 4, rfl, .inr ⟨_, ha, rfl⟩, rfl, false, rfl, iteF ?_⟩
  refine ⟨_, rfl, _, _, 0, _, rfl, rfl, ha, rfl, _, _, _, _, true, rfl, .ty _, ty_tup hb, kit_ty (by decide +kernel), true, rfl, iteF ?_⟩
  refine ⟨_, rfl, a, _, rfl, ha, rfl, _, _, rfl, _, _, rfl, _, _, rfl, _, _, rfl, rfl, ?_⟩
  refine ⟨_, rfl, _, gs.length, rfl, .inr ⟨_, hb, rfl⟩, _, _, rfl, rfl, false, bF (by omega), iteF ?_⟩
  refine ⟨_, rfl, b, rfl, ⟨_, hb⟩, ?_⟩
  refine lc_go (Z := []) (fun i acc _ => acc = (List.replicate i true).map V.bl) wk_tup (le_sl (by omega)) no_z (fun H' g => g.tup hb) (fun _ _ => rfl) (fun _ _ _ _ _ _ h _ => h) ?_ ?_
  · intro i x acc H' hi hx hl g hR K1 K2 k1 k2
    obtain ⟨y, hy, hxy⟩ := paired_at hg hx
    obtain ⟨z1, z2, z3⟩ := hc2 y (List.mem_of_getElem? hy)
    refine ⟨rfl, _, rfl, rfl, x, y.1, y.2.1, y.2.2, rfl, TupIs.go hxy g, z1, z2, z3, k1 _ _ Go.refl ?_⟩
    rw [hR, List.replicate_succ', List.map_append] <;> rfl
  · intro D acc H' hD g hacc hl hR
    subst hR
    refine ⟨D, _, rfl, .inl (.inl hacc), true, congrArg V.bl (by rw [List.all_replicate]; simp), iteF ?_⟩
    refine ⟨_, rfl, rfl, _, rfl, hc3, true, rfl, iteF ?_⟩
    refine ⟨_, rfl, _, rfl, rfl, _, _, rfl, hc4, true, rfl, iteF ?_⟩
    rcases hc5 with e | e
    · rw [e]
      refine ⟨_, rfl, _, _, _, _, true, rfl, .ty _, .base (.str _), kit_ty (by decide +kernel), true, rfl, iteT ?_⟩
      exact ⟨_, rfl, rfl, q _ g⟩
    · rw [e]
      refine ⟨_, rfl, _, _, _, _, false, rfl, .ty _, .base (.int _), kit_ty (by decide +kernel), false, rfl, iteF ?_⟩
      refine ⟨_, rfl, rfl, _, rfl, true, rfl, iteT ?_⟩
      exact ⟨_, rfl, rfl, true, rfl, iteT (q _ g)⟩
end
def sp_is_program (K : PySem.W.Frag) : Sp := fun vs H Q _ => vs.length = 2 ∧ ∃ v n cs, vs = [v, .int n] ∧ PrV K H v cs ∧ cs.length ≤ 8 ∧ (∀ c ∈ cs, c.ok) ∧ ∀ H', Go [] H H' → Q (.bl true) H'
section
variable {P : Program} {w : World} {K : PySem.W.Frag} {mg : Str → Option Value} {base : Heap}
theorem ok_is_program (T : Txt w K mg) (c_is_clause : C8.Cal P w K mg base 4 "is_clause" (sp_is_clause K) []) : C8.Cal P w K mg base 5 "is_program" (sp_is_program K) [] := by
  refine cal_go T.f_is_program T.o_is_program sc_is_program (fun _ _ _ _ _ _ us hl => match us, hl with | [_, _], _ => rfl) (fun _ _ _ _ h => h.1) fun cdv A outer s H vs Q E hr h => ?_
  refine ⟨_, (pss_cons (ps_if (PW.pt (pw_or (pt_not (pt_val (pe_callB (show CallR _ _ (rIsi K) from call_isi) (by rfl) T.b_isinstance (by decide +kernel) (pa_cons (pv 0) (pa_cons (pe_bltn (v := .ty "tuple") (by rfl) T.b_tuple (by decide +kernel) rfl) pa_nil))))) (pw_or1 (pt_cmpR op_gt (pe_callB (show CallR _ _ (rLen K) from call_len) (by rfl) T.b_len PySem.boot_len (pa_cons (pv 0) pa_nil)) (C8.pe_gc (by rfl) T.g_MOST_CLAUSES) (nomark _))))) (pss_one (ps_ret pe_bl)) pss_nil)
    (pss_one (ps_ret (pe_callB (cr_all rfl) (by rfl) T.b_all (by decide +kernel) (pa_cons (pe_lc (own := [("clause", 2)]) rfl sc_is_program.nd (pi_tup (pv 0)) (blkOk_by (own := [("clause", 2)]) (N := n_is_program) (sc := defScope s_is_program) (by decide +kernel)) (fun _ _ _ _ _ => (pg_name (i := 2) sc_is_program.nd rfl (by first | exact Or.inl rfl | exact Or.inr rfl))) (fun _ _ _ _ _ => pts_nil) (fun _ _ _ _ _ => (C8.pe_c c_is_clause hr (by decide) (by rfl) (pa_cons (pv 2) (pa_cons (pv 1) pa_nil))))) pa_nil))))), ?_⟩
  obtain ⟨_, v, n, cs, rfl, ⟨vs, ⟨a, rfl, ha⟩, hv⟩, hl, hc, q⟩ := h
  have hgl : vs.length = cs.length := hv.length
  refine ⟨_, rfl, _, _, _, _, true, rfl, .ty _, ty_tup ha, kit_ty (by decide +kernel), true, rfl, iteF ?_⟩
  refine ⟨_, rfl, _, vs.length, rfl, .inr ⟨_, ha, rfl⟩, _, _, rfl, rfl, false, bF (by omega), iteF ?_⟩
  refine ⟨_, rfl, a, rfl, ⟨_, ha⟩, ?_⟩
  refine lc_go (Z := []) (fun i acc _ => acc = (List.replicate i true).map V.bl) wk_tup (le_sl (by omega)) no_z (fun H' g => g.tup ha) (fun _ _ => rfl) (fun _ _ _ _ _ _ h _ => h) ?_ ?_
  · intro i x acc H' hi hx hl g hR K1 K2 k1 k2
    obtain ⟨y, hy, hxy⟩ := paired_at hv hx
    refine ⟨rfl, _, rfl, _, rfl, rfl, x, n, y, rfl, hxy.go g, hc y (List.mem_of_getElem? hy), fun H2 g2 => k1 _ _ g2 ?_⟩
    rw [hR, List.replicate_succ', List.map_append] <;> rfl
  · intro D acc H' hD g hacc hl hR
    subst hR
    refine ⟨D, _, rfl, .inl (.inl hacc), qB ?_ (q _ g)⟩
    rw [List.all_replicate]
    simp
end

end SH

set_option Elab.async false
set_option linter.all false
set_option maxRecDepth 100000
set_option maxHeartbeats 4000000
namespace SH
open PySem PySem.Spec PyProof.Rows L2
/-! ### how the state lies in the heap -/
structure Ad where
  bl : Addr
  dxb : Addr
  dk : Addr
  dxd : Addr
  ty : Addr
  dxt : Addr
  he : Addr
  wa : Addr
  sh : Addr
  kn : Addr
  mks : Addr
  bu : Addr
  ke : Addr
  fr : Addr
def OpV (K : PySem.W.Frag) (H : Hp) (v : V) : Op → Prop
  | .wr b w e => ∃ u, TupIs K H v [.str "write", .int b, u, .int e] ∧ WdV K H u w
  | .rd b e => TupIs K H v [.str "read", .int b, .int e]
structure DiskAt (K : PySem.W.Frag) (dk dxd he wa : Addr) (H : Hp) (n : Int) (held : Int → Wd) (q : List Op) : Prop where
  ins : H dk = some (.ins (He.ga K "Disk") dxd [("blocks", .int n), ("held", .ref he), ("waiting", .ref wa)])
  heldL : ∃ hs, H he = some (.lst hs) ∧ (hs.length : Int) = n ∧ ∀ (j : Nat) v, hs[j]? = some v → WdV K H v (held j)
  waL : ∃ ws, H wa = some (.lst ws) ∧ Paired (OpV K H) ws q
  ne : he ≠ wa
  n0 : 24 ≤ n ∧ n ≤ 64
  ql : q.length ≤ 64
def prog2 : List Cl := [⟨[], 0, 2, none⟩, ⟨[], 2, 2, some 0⟩]
def prog3 : List Cl := [⟨[(7, 255, 1)], 0, 4, some 0⟩]
structure TypesAt (K : PySem.W.Frag) (ty dxt kn mk : Addr) (H : Hp) (n : Int) (ps : List (List Cl)) (ms : List Int) : Prop where
  ins : H ty = some (.ins (He.ga K "Types") dxt [("blocks", .int n), ("known", .ref kn), ("makers", .ref mk)])
  knL : ∃ ks, H kn = some (.lst ks) ∧ Paired (PrV K H) ks ps
  mkL : H mk = some (.lst (ms.map V.int))
  ne : kn ≠ mk
/-- values of the three dicts -/
def BuV (K : PySem.W.Frag) (H : Hp) (x : Int × Wd) (v : V) : Prop := ∃ u, TupIs K H v [.int x.1, u] ∧ WdV K H u x.2
def KeV (K : PySem.W.Frag) (H : Hp) (x : Int × Option Int) (v : V) : Prop := TupIs K H v [.int x.1, oV x.2]
def FrV (_ : Unit) (v : V) : Prop := v = .bl true
def frM (f : Int → Bool) : Int → Option Unit := fun b => if f b = true then some () else none
/-- a forest as a dict -/
def FoV (_ : PySem.W.Frag) (H : Hp) (x : Option Int × Option Int) (v : V) : Prop := ∃ a, v = .ref a ∧ H a = some (.tup [oV x.1, oV x.2])
/-- the list of what a block owns: a tuple of pairs -/
def OwV (K : PySem.W.Frag) (H : Hp) (v : V) (cs : List (Int × Int)) : Prop := ∃ a o ps, v = .ref a ∧ H a = some (.frz o (.tup (ps.map V.ref))) ∧ o.dict = none ∧ Paired (fun p c => SqT K H p [.int c.1, .int c.2]) ps cs
structure BlkAt (K : PySem.W.Frag) (A : Ad) (H : Hp) (n : Int) (s : St) : Prop where
  ins : H A.bl = some (.ins (He.ga K "Blocks") A.dxb [("disk", .ref A.dk), ("shares", .ref A.sh), ("types", .ref A.ty), ("buffers", .ref A.bu), ("kept", .ref A.ke), ("fresh", .ref A.fr)])
  disk : DiskAt K A.dk A.dxd A.he A.wa H n s.held s.queue
  types : ∃ ms, TypesAt K A.ty A.dxt A.kn A.mks H n [prog2, prog3] ms
  bufD : ∃ kvs, H A.bu = some (.dK kvs) ∧ MapR kvs s.buf (BuV K H)
  keptD : ∃ kvs, H A.ke = some (.dK kvs) ∧ MapR kvs s.kept (KeV K H)
  freshD : ∃ kvs, H A.fr = some (.dK kvs) ∧ MapR kvs (frM s.fresh) FrV
  shL : H A.sh = some (.lst [.int 5, .int 5, .int 5, .int 5])
  nd : [A.bu, A.ke, A.fr].Nodup
  nl : [A.he, A.wa, A.sh, A.kn, A.mks].Nodup
section
variable {K : PySem.W.Frag} {A : Ad} {H H' : Hp} {n : Int} {s : St} {Z : List Addr}
theorem OpV.go {v : V} {op : Op} (h : OpV K H v op) (g : Go Z H H') : OpV K H' v op := by
  cases op with
  | wr b w e => obtain ⟨u, h1, h2⟩ := h; exact ⟨u, h1.go g, h2.go g⟩
  | rd b e => exact TupIs.go h g
theorem BuV.go {x : Int × Wd} {v : V} (h : BuV K H x v) (g : Go Z H H') : BuV K H' x v := let ⟨u, h1, h2⟩ := h; ⟨u, h1.go g, h2.go g⟩
theorem KeV.go {x : Int × Option Int} {v : V} (h : KeV K H x v) (g : Go Z H H') : KeV K H' x v := TupIs.go h g
theorem FoV.go {x : Option Int × Option Int} {v : V} (h : FoV K H x v) (g : Go Z H H') : FoV K H' x v := let ⟨a, e, q⟩ := h; ⟨a, e, g.tk _ _ q⟩
theorem OwV.go {v : V} {cs : List (Int × Int)} (h : OwV K H v cs) (g : Go Z H H') : OwV K H' v cs := by
  obtain ⟨a, o, ps, e, h1, h2, h3⟩ := h
  exact ⟨a, o, ps, e, g.fk _ _ _ h1, h2, Paired.mapP h3 fun p c q => g.tup q⟩
theorem DiskAt.go {dk dxd he wa : Addr} {held : Int → Wd} {q : List Op} (h : DiskAt K dk dxd he wa H n held q) (g : Go Z H H') (z : ∀ a ∈ [dk, he, wa], a ∉ Z) : DiskAt K dk dxd he wa H' n held q where
  ins := g.fr _ _ h.ins (z _ (by simp))
  heldL := let ⟨hs, h1, h2, h3⟩ := h.heldL; ⟨hs, g.fr _ _ h1 (z _ (by simp)), h2, fun j v e => (h3 j v e).go g⟩
  waL := let ⟨ws, h1, h2⟩ := h.waL; ⟨ws, g.fr _ _ h1 (z _ (by simp)), Paired.mapP h2 fun a b q => q.go g⟩
  ne := h.ne
  n0 := h.n0
  ql := h.ql
theorem TypesAt.go {ty dxt kn mk : Addr} {ps : List (List Cl)} {ms : List Int} (h : TypesAt K ty dxt kn mk H n ps ms) (g : Go Z H H') (z : ∀ a ∈ [ty, kn, mk], a ∉ Z) : TypesAt K ty dxt kn mk H' n ps ms where
  ins := g.fr _ _ h.ins (z _ (by simp))
  knL := let ⟨ws, h1, h2⟩ := h.knL; ⟨ws, g.fr _ _ h1 (z _ (by simp)), Paired.mapP h2 fun a b q => q.go g⟩
  mkL := g.fr _ _ h.mkL (z _ (by simp))
  ne := h.ne
def Ad.all (A : Ad) : List Addr := [A.bl, A.dk, A.he, A.wa, A.ty, A.kn, A.mks, A.sh, A.bu, A.ke, A.fr]
theorem BlkAt.goZ (h : BlkAt K A H n s) (g : Go Z H H') (z : ∀ a ∈ A.all, a ∉ Z) : BlkAt K A H' n s where
  ins := g.fr _ _ h.ins (z _ (by simp [Ad.all]))
  disk := h.disk.go g fun a m => z a (by simp [Ad.all] at m ⊢; rcases m with e | e | e <;> simp [e])
  types := let ⟨ms, q⟩ := h.types; ⟨ms, q.go g fun a m => z a (by simp [Ad.all] at m ⊢; rcases m with e | e | e <;> simp [e])⟩
  bufD := let ⟨kvs, h1, h2⟩ := h.bufD; ⟨kvs, g.fr _ _ h1 (z _ (by simp [Ad.all])), h2.mono fun _ _ _ _ q => q.go g⟩
  keptD := let ⟨kvs, h1, h2⟩ := h.keptD; ⟨kvs, g.fr _ _ h1 (z _ (by simp [Ad.all])), h2.mono fun _ _ _ _ q => q.go g⟩
  freshD := let ⟨kvs, h1, h2⟩ := h.freshD; ⟨kvs, g.fr _ _ h1 (z _ (by simp [Ad.all])), h2⟩
  shL := g.fr _ _ h.shL (z _ (by simp [Ad.all]))
  nd := h.nd
  nl := h.nl
theorem BlkAt.go (h : BlkAt K A H n s) (g : Go [] H H') : BlkAt K A H' n s := h.goZ g fun _ _ q => nomatch q
end
end SH

set_option Elab.async false
set_option linter.all false
set_option maxRecDepth 100000
set_option maxHeartbeats 4000000
namespace SH
open PySem PySem.Spec PyProof.Rows L2
def sp_Diskinit (K : PySem.W.Frag) : Sp := fun vs H Q _ => vs.length = 2 ∧ ∃ x dx n, vs = [.ref x, .int n] ∧ H x = some (.ins (He.ga K "Disk") dx []) ∧ (24 ≤ n ∧ n ≤ 64) ∧
  ∀ H' he wa, Go [x] H H' → H he = none → H wa = none → DiskAt K x dx he wa H' n (fun _ => zer) [] → Q .non H'
section
variable {P : Program} {w : World} {K : PySem.W.Frag} {mg : Str → Option Value} {base : Heap}
theorem ok_Diskinit (T : Txt w K mg) (c_is_number : C8.Cal P w K mg base 1 "is_number" (sp_is_number K) []) : C8.Mak P w K mg base 2 "Disk" (He.ga K "Disk") (sp_Diskinit K) [] := by
  refine mak_go T.f_Diskinit T.mk_Disk T.o_Disk sc_Diskinit (fun _ _ _ _ _ _ us hl => match us, hl with | [_, _], _ => rfl) (fun _ _ _ _ h => h.1) fun cdv A outer s H vs Q E hr h => ?_
  refine ⟨_, (pss_cons (ps_if (PW.pt (pw_or (pt_not (pt_val (C8.pe_c c_is_number hr (by decide) (by rfl) (pa_cons (pv 1) pa_nil)))) (pw_or1 (pt_not (pt_chain op_le op_le (C8.pe_gc (by rfl) T.g_LEAST_BLOCKS) (pv 1) (C8.pe_gc (by rfl) T.g_MOST_BLOCKS)))))) (pss_one ps_never) pss_nil)
    (pss_cons (ps_fld (pv 0) (pv 1) rfl)
    (pss_cons (ps_fld (pv 0) (pe_op op_rep (pe_lst (pa_cons (pe_op op_repT (pe_tup (pa_cons pe_int pa_nil)) (C8.pe_gc (by rfl) T.g_WORDS)) pa_nil)) (pv 1)) rfl)
    (pss_one (ps_fld (pv 0) (pe_lst pa_nil) rfl))))), ?_⟩
  obtain ⟨_, x, dx, n, rfl, hx, hn, q⟩ := h
  refine ⟨_, rfl, rfl, n, rfl, true, rfl, _, rfl, 24, n, rfl, rfl, true, bT hn.1, n, 64, rfl, rfl, true, bT hn.2, ?_⟩
  refine ⟨_, rfl, _, rfl, _, _, _, _, rfl, hx, T.k_Disk, T.na_Disk_blocks, by decide, ?_⟩
  have h1x : upd H x (.ins (He.ga K "Disk") dx (putF "blocks" (.int n) [])) x = some (.ins (He.ga K "Disk") dx [("blocks", .int n)]) := upd_same
  have g1 : Go [x] H (upd H x (.ins (He.ga K "Disk") dx (putF "blocks" (.int n) []))) := Go.put List.mem_cons_self (by rw [hx]; trivial)
  generalize upd H x (.ins (He.ga K "Disk") dx (putF "blocks" (.int n) [])) = H1 at h1x g1 ⊢
  refine ⟨(by decide : 1 ≤ sizeLine), fun p hp => ?_⟩
  refine ⟨p, 8, _, rfl, rfl, .inl (.inl upd_same), by simp, by decide, by decide, by simp, fun p2 hp2 => ?_⟩
  refine ⟨(by decide : 1 ≤ sizeLine), fun p3 hp3 => ?_⟩
  refine ⟨_, rfl, p3, n, _, rfl, rfl, upd_same, by omega, by omega, le_sl (by simp; omega), fun he hhe => ?_⟩
  have g2 : Go [] H1 (upd (upd (upd H1 p (.tup [.int 0])) p2 (.tup (List.replicate (8 : Int).toNat [.int 0]).flatten)) p3 (.lst [.ref p2])) := (Go.new hp).trans ((Go.new hp2).trans (Go.new hp3))
  have hz : SqT K (upd (upd (upd H1 p (.tup [.int 0])) p2 (.tup (List.replicate (8 : Int).toNat [.int 0]).flatten)) p3 (.lst [.ref p2])) p2 (zer.map V.int) := Go.tup (Z := []) (Go.new hp3) (.inl (.inl upd_same))
  generalize upd (upd (upd H1 p (.tup [.int 0])) p2 (.tup (List.replicate (8 : Int).toNat [.int 0]).flatten)) p3 (.lst [.ref p2]) = H2 at g2 hz hhe ⊢
  have nx : x ≠ he := ne_of_none (g2.at h1x) hhe
  have g3 : Go [] H2 (upd H2 he (.lst (List.replicate n.toNat [.ref p2]).flatten)) := Go.new hhe
  have h3e : upd H2 he (.lst (List.replicate n.toNat [V.ref p2]).flatten) he = some (.lst (List.replicate n.toNat (V.ref p2))) := by rw [upd_same]; simp
  generalize upd H2 he (.lst (List.replicate n.toNat [.ref p2]).flatten) = H3 at g3 h3e ⊢
  have h3x := g3.at (g2.at h1x)
  refine ⟨_, rfl, _, _, _, _, rfl, h3x, T.k_Disk, T.na_Disk_held, by simp, ?_⟩
  have h4x : upd H3 x (.ins (He.ga K "Disk") dx (putF "held" (.ref he) [("blocks", .int n)])) x = some (.ins (He.ga K "Disk") dx [("blocks", .int n), ("held", .ref he)]) := upd_same
  have g4 : Go [x] H3 (upd H3 x (.ins (He.ga K "Disk") dx (putF "held" (.ref he) [("blocks", .int n)]))) := Go.put List.mem_cons_self (by rw [h3x]; trivial)
  have h4e : upd H3 x (.ins (He.ga K "Disk") dx (putF "held" (.ref he) [("blocks", .int n)])) he = some (.lst (List.replicate n.toNat (V.ref p2))) := by rw [upd_ne nx.symm]; exact h3e
  generalize upd H3 x (.ins (He.ga K "Disk") dx (putF "held" (.ref he) [("blocks", .int n)])) = H4 at h4x h4e g4 ⊢
  refine ⟨(by decide : 0 ≤ sizeLine), fun wa hwa => ?_⟩
  have nw : he ≠ wa := ne_of_none h4e hwa
  have nxw : x ≠ wa := ne_of_none h4x hwa
  have g5 : Go [] H4 (upd H4 wa (.lst [])) := Go.new hwa
  refine ⟨_, rfl, _, _, _, _, rfl, g5.at h4x, T.k_Disk, T.na_Disk_waiting, by simp, ?_⟩
  have g6 : Go [x] (upd H4 wa (.lst [])) (upd (upd H4 wa (.lst [])) x (.ins (He.ga K "Disk") dx (putF "waiting" (.ref wa) [("blocks", .int n), ("held", .ref he)]))) := Go.put List.mem_cons_self (by rw [g5.at h4x]; trivial)
  have g0 : Go [x] H H4 := g1.trans (g2.lift.trans (g3.lift.trans g4))
  refine q _ he wa (g0.trans (g5.lift.trans g6)) ((g1.trans g2.lift).free hhe) (g0.free hwa) ⟨upd_same, ⟨List.replicate n.toNat (V.ref p2), ?_, ?_, fun j v hj => ?_⟩, ⟨[], ?_, .nil⟩, nw, hn, Nat.zero_le _⟩
  · rw [upd_ne nx.symm]
    exact g5.at h4e
  · simp; omega
  · have e : v = .ref p2 := List.eq_of_mem_replicate (List.mem_of_getElem? hj)
    rw [e]
    exact ⟨p2, rfl, (g3.lift.trans (g4.trans (g5.lift.trans g6))).tup hz⟩
  · rw [upd_ne nxw.symm]
    exact upd_same
end
theorem atI_of {α : Type} {xs : List α} {i : Int} {v : α} (h0 : 0 ≤ i) (h : xs[i.toNat]? = some v) : atI xs i = some v := by
  have hl : i.toNat < xs.length := by
    rcases Nat.lt_or_ge i.toNat xs.length with q | q
    · exact q
    · rw [List.getElem?_eq_none q] at h; cases h
  unfold atI ixN
  rw [if_pos h0, if_pos (by omega)]
  exact h
def sp_Disk_words (K : PySem.W.Frag) : Sp := fun vs H Q _ => vs.length = 2 ∧ ∃ dk dxd he wa n held qu b, vs = [.ref dk, .int b] ∧ DiskAt K dk dxd he wa H n held qu ∧ (0 ≤ b ∧ b < n) ∧ ∀ v, WdV K H v (held b) → Q v H
section
variable {P : Program} {w : World} {K : PySem.W.Frag} {mg : Str → Option Value} {base : Heap}
theorem ok_Disk_words (T : Txt w K mg)  : C8.Met P w K mg base 1 (He.ga K "Disk") "words" (sp_Disk_words K) [] := by
  refine met_go T.f_Disk_words T.k_Disk T.me_Disk_words sc_Disk_words (fun _ _ _ _ _ _ us hl => match us, hl with | [_, _], _ => rfl) (fun _ _ _ _ h => h.1) fun cdv A outer s H vs Q E hr h => ?_
  refine ⟨_, (pss_one (ps_ret (pe_ix (show IxR _ (rIxL K) from ix_list) (pe_fldK K rfl (pv 0) rfl) (pv 1) (fun _ _ => rfl)))), ?_⟩
  obtain ⟨_, dk, dxd, he, wa, n, held, qu, b, rfl, D, hb, q⟩ := h
  obtain ⟨hs, h1, h2, h3⟩ := D.heldL
  have hj : b.toNat < hs.length := by omega
  have e : ((b.toNat : Nat) : Int) = b := Int.toNat_of_nonneg hb.1
  have hv := h3 b.toNat _ (List.getElem?_eq_getElem hj)
  rw [e] at hv
  exact ⟨_, rfl, _, _, _, _, _, rfl, D.ins, T.k_Disk, T.na_Disk_held, rfl, _, rfl, he, hs, b, _, rfl, rfl, .inl (.inl h1), atI_of hb.1 (List.getElem?_eq_getElem hj), q _ hv⟩
end
def sp_Disk_queue (K : PySem.W.Frag) : Sp := fun vs H Q _ => vs.length = 1 ∧ ∃ dk dxd he wa n held qu, vs = [.ref dk] ∧ DiskAt K dk dxd he wa H n held qu ∧
  ∀ p ws H', Go [] H H' → H p = none → H' p = some (.lst ws) → Paired (OpV K H') ws qu → Q (.ref p) H'
section
variable {P : Program} {w : World} {K : PySem.W.Frag} {mg : Str → Option Value} {base : Heap}
theorem ok_Disk_queue (T : Txt w K mg)  : C8.Met P w K mg base 1 (He.ga K "Disk") "queue" (sp_Disk_queue K) [] := by
  refine met_go T.f_Disk_queue T.k_Disk T.me_Disk_queue sc_Disk_queue (fun _ _ _ _ _ _ us hl => match us, hl with | [_], _ => rfl) (fun _ _ _ _ h => h.1) fun cdv A outer s H vs Q E hr h => ?_
  refine ⟨_, (pss_one (ps_ret (pe_callTy call_list_of (by rfl) T.b_list (by decide +kernel) (pa_cons (pe_fldK K rfl (pv 0) rfl) pa_nil)))), ?_⟩
  obtain ⟨_, dk, dxd, he, wa, n, held, qu, rfl, D, q⟩ := h
  obtain ⟨ws, h1, h2⟩ := D.waL
  refine ⟨_, rfl, _, _, _, _, _, rfl, D.ins, T.k_Disk, T.na_Disk_waiting, rfl, wa, ws, rfl, .inl (.inl (.inl h1)), fun l hl => ?_⟩
  exact q l ws _ (Go.new hl) hl upd_same (Paired.mapP h2 fun a b z => z.go (Z := []) (Go.new hl))
end
theorem at1 {α : Type} {x y : α} {zs : List α} : atI (x :: y :: zs) 1 = some y := by
  refine atI_of (by omega) rfl
theorem opv_blk {K : PySem.W.Frag} {H : Hp} {v : V} {op : Op} (h : OpV K H v op) : ∃ a, v = .ref a ∧ ∃ z zs, SqT K H a (z :: .int op.blk :: zs) := by
  cases op with
  | wr b w e =>
    obtain ⟨u, ⟨a, e1, h1⟩, _⟩ := h
    exact ⟨a, e1, _, _, h1⟩
  | rd b e =>
    obtain ⟨a, e1, h1⟩ := h
    exact ⟨a, e1, _, _, h1⟩
theorem paired_app {α β : Type} {F : α → β → Prop} : ∀ {l1 : List α} {m1 : List β} {l2 : List α} {m2 : List β}, Paired F l1 m1 → Paired F l2 m2 → Paired F (l1 ++ l2) (m1 ++ m2)
  | _, _, _, _, .nil, h => h
  | _, _, _, _, .cons r t, h => .cons r (paired_app t h)
def sp_Disk_waits (K : PySem.W.Frag) : Sp := fun vs H Q _ => vs.length = 2 ∧ ∃ dk dxd he wa n held qu b, vs = [.ref dk, .int b] ∧ DiskAt K dk dxd he wa H n held qu ∧
  ∀ H', Go [] H H' → Q (.bl (decide (∃ op ∈ qu, op.blk = b))) H'
section
variable {P : Program} {w : World} {K : PySem.W.Frag} {mg : Str → Option Value} {base : Heap}
theorem ok_Disk_waits (T : Txt w K mg)  : C8.Met P w K mg base 1 (He.ga K "Disk") "waits" (sp_Disk_waits K) [] := by
  refine met_go T.f_Disk_waits T.k_Disk T.me_Disk_waits sc_Disk_waits (fun _ _ _ _ _ _ us hl => match us, hl with | [_, _], _ => rfl) (fun _ _ _ _ h => h.1) fun cdv A outer s H vs Q E hr h => ?_
  refine ⟨_, (pss_one (ps_ret (pe_callB (cr_any rfl) (by rfl) T.b_any (by decide +kernel) (pa_cons (pe_lc (own := [("operation", 2)]) rfl sc_Disk_waits.nd (pi_list (pe_fldK K rfl (pv 0) rfl)) (blkOk_by (own := [("operation", 2)]) (N := n_Disk_waits) (sc := defScope s_Disk_waits) (by decide +kernel)) (fun _ _ _ _ _ => (pg_name (i := 2) sc_Disk_waits.nd rfl (by first | exact Or.inl rfl | exact Or.inr rfl))) (fun _ _ _ _ _ => pts_nil) (fun _ _ _ _ _ => (pe_cmpR op_eq (pe_ix (show IxR _ (rIxT K) from ix_tup) (pv 2) pe_int (fun _ _ => rfl)) (pv 1) (nomark _)))) pa_nil)))), ?_⟩
  obtain ⟨_, dk, dxd, he, wa, n, held, qu, b, rfl, D, q⟩ := h
  obtain ⟨ws, h1, h2⟩ := D.waL
  have hlen := h2.length
  have hql := D.ql
  refine ⟨_, rfl, _, _, _, _, _, rfl, D.ins, T.k_Disk, T.na_Disk_waiting, rfl, wa, rfl, ⟨ws, .inl (.inl h1)⟩, ?_⟩
  refine lc_go (Z := []) (fun i acc _ => acc = (List.map (fun o : Op => decide (o.blk = b)) (qu.take i)).map V.bl) wk_list (le_sl (by omega)) no_z (fun H' g => .inl (.inl (g.at h1))) (fun _ _ => rfl) (fun _ _ _ _ _ _ h _ => h) ?_ ?_
  · intro i x acc H' hi hx hl g hR K1 K2 k1 k2
    obtain ⟨o, ho, hxo⟩ := paired_at h2 hx
    have e2 : qu.take (i + 1) = qu.take i ++ [o] := by rw [List.take_add_one, ho] <;> rfl
    have kk : K1 (.bl (decide (V.int o.blk = V.int b))) H' := k1 _ _ Go.refl (by
      rw [hR, e2]
      simp [V.int.injEq])
    obtain ⟨a, ea, es⟩ := opv_blk (hxo.go g)
    subst ea
    obtain ⟨z, zs, ez⟩ := es
    exact ⟨rfl, _, rfl, a, _, 1, _, rfl, rfl, ez, at1, _, rfl, rfl, kk⟩
  · intro L acc H' hD g hacc hl hR
    subst hR
    refine ⟨L, _, rfl, .inl (.inl hacc), qB ?_ (q _ g)⟩
    rw [hlen, List.take_length, List.any_map]
    rw [Bool.eq_iff_iff]
    simp
end
def sp_Disk_add (K : PySem.W.Frag) : Sp := fun vs H Q _ => vs.length = 2 ∧ ∃ dk dxd he wa n held qu v op, vs = [.ref dk, v] ∧ DiskAt K dk dxd he wa H n held qu ∧ OpV K H v op ∧ (∀ o ∈ qu, o.blk ≠ op.blk) ∧ qu.length < 64 ∧
  ∀ H', Go [wa] H H' → DiskAt K dk dxd he wa H' n held (qu ++ [op]) → Q .non H'
section
variable {P : Program} {w : World} {K : PySem.W.Frag} {mg : Str → Option Value} {base : Heap}
theorem ok_Disk_add (T : Txt w K mg) (c_Disk_waits : C8.Met P w K mg base 1 (He.ga K "Disk") "waits" (sp_Disk_waits K) []) : C8.Met P w K mg base 2 (He.ga K "Disk") "add" (sp_Disk_add K) [] := by
  refine met_go T.f_Disk_add T.k_Disk T.me_Disk_add sc_Disk_add (fun _ _ _ _ _ _ us hl => match us, hl with | [_, _], _ => rfl) (fun _ _ _ _ h => h.1) fun cdv A outer s H vs Q E hr h => ?_
  refine ⟨_, (pss_cons (ps_if (pt_val (C8.pe_mt c_Disk_waits hr (by decide) (pv 0) (pa_cons (pe_ix (show IxR _ (rIxT K) from ix_tup) (pv 1) pe_int (fun _ _ => rfl)) pa_nil))) (pss_one ps_never) pss_nil)
    (pss_one (ps_expr (pe_bm PySem.F.plainAttrs_list PySem.F.slot_list_append PySem.F.type_list_append mt_append (pe_fldK K rfl (pv 0) rfl) (pa_cons (pv 1) pa_nil))))), ?_⟩
  obtain ⟨_, dk, dxd, he, wa, n, held, qu, v, op, rfl, D, ho, hq, hl, q⟩ := h
  obtain ⟨a, ea, z, zs, ez⟩ := opv_blk ho
  subst ea
  refine ⟨_, rfl, dk, _, _, rfl, D.ins, rfl, _, rfl, a, _, 1, _, rfl, rfl, ez, at1, rfl, dk, dxd, he, wa, n, held, qu, op.blk, rfl, D, fun H1 g1 => ⟨false, bF (fun ⟨o, h1, h2⟩ => hq o h1 h2), ?_⟩⟩
  have D1 := D.go g1 (by simp)
  obtain ⟨ws, h1, h2⟩ := D1.waL
  have hlen := h2.length
  refine ⟨_, rfl, _, _, _, _, _, rfl, D1.ins, T.k_Disk, T.na_Disk_waiting, rfl, .inl ⟨rfl, ws, .inl (.inl h1)⟩, _, rfl, wa, ws, _, rfl, rfl, h1, lt_sl (by omega), ?_⟩
  have g2 : Go [wa] H1 (upd H1 wa (.lst (ws ++ [.ref a]))) := Go.put List.mem_cons_self (by rw [h1]; trivial)
  obtain ⟨hs, k1, k2, k3⟩ := D1.heldL
  refine q _ (g1.lift.trans g2) ⟨?_, ⟨hs, ?_, k2, fun j v e => (k3 j v e).go g2⟩, ⟨_, upd_same, ?_⟩, D.ne, D.n0, by rw [List.length_append]; simp; omega⟩
  · rw [upd_ne (ne_of D1.ins h1 (by simp))]
    exact D1.ins
  · rw [upd_ne D.ne]
    exact k1
  · exact paired_app (Paired.mapP h2 fun a b z => z.go g2) (.cons ((ho.go g1).go g2) .nil)
end
def sp_Disk_image (K : PySem.W.Frag) : Sp := fun vs H Q _ => vs.length = 1 ∧ ∃ dk dxd he wa n held qu, vs = [.ref dk] ∧ DiskAt K dk dxd he wa H n held qu ∧
  ∀ p hs H', Go [] H H' → H p = none → H' p = some (.lst hs) → (hs.length : Int) = n → (∀ (j : Nat) v, hs[j]? = some v → WdV K H' v (held j)) → Q (.ref p) H'
section
variable {P : Program} {w : World} {K : PySem.W.Frag} {mg : Str → Option Value} {base : Heap}
theorem ok_Disk_image (T : Txt w K mg)  : C8.Met P w K mg base 1 (He.ga K "Disk") "image" (sp_Disk_image K) [] := by
  refine met_go T.f_Disk_image T.k_Disk T.me_Disk_image sc_Disk_image (fun _ _ _ _ _ _ us hl => match us, hl with | [_], _ => rfl) (fun _ _ _ _ h => h.1) fun cdv A outer s H vs Q E hr h => ?_
  refine ⟨_, (pss_one (ps_ret (pe_callTy call_list_of (by rfl) T.b_list (by decide +kernel) (pa_cons (pe_fldK K rfl (pv 0) rfl) pa_nil)))), ?_⟩
  obtain ⟨_, dk, dxd, he, wa, n, held, qu, rfl, D, q⟩ := h
  obtain ⟨hs, h1, h2, h3⟩ := D.heldL
  refine ⟨_, rfl, _, _, _, _, _, rfl, D.ins, T.k_Disk, T.na_Disk_held, rfl, he, hs, rfl, .inl (.inl (.inl h1)), fun l hl => ?_⟩
  exact q l hs _ (Go.new hl) hl upd_same h2 fun j v e => (h3 j v e).go (Z := []) (Go.new hl)
end
section
variable {K : PySem.W.Frag} {H : Hp} {n : Int} {dk dxd he wa : Addr} {held : Int → Wd} {q : List Op} {v : V} {w : Wd} {b : Int}
theorem DiskAt.neH (D : DiskAt K dk dxd he wa H n held q) : dk ≠ he := by
  obtain ⟨hs, h1, _⟩ := D.heldL
  exact ne_of D.ins h1 (by simp)
theorem DiskAt.neW (D : DiskAt K dk dxd he wa H n held q) : dk ≠ wa := by
  obtain ⟨hs, h1, _⟩ := D.waL
  exact ne_of D.ins h1 (by simp)
theorem DiskAt.store (D : DiskAt K dk dxd he wa H n held q) (h0 : 0 ≤ b) (h1 : b < n) (hv : WdV K H v w) :
    ∃ hs, H he = some (.lst hs) ∧ ixN hs.length b = some b.toNat ∧ Go [he] H (upd H he (.lst (hs.set b.toNat v))) ∧ DiskAt K dk dxd he wa (upd H he (.lst (hs.set b.toNat v))) n (setW held b w) q := by
  obtain ⟨hs, e1, e2, e3⟩ := D.heldL
  have g : Go [he] H (upd H he (.lst (hs.set b.toNat v))) := Go.put List.mem_cons_self (by rw [e1]; trivial)
  refine ⟨hs, e1, ?_, g, ?_, ⟨_, upd_same, by rw [List.length_set]; exact e2, fun j u hj => ?_⟩, ?_, D.ne, D.n0, D.ql⟩
  · unfold ixN
    rw [if_pos h0, if_pos (by omega)]
  · rw [upd_ne D.neH]
    exact D.ins
  · rw [List.getElem?_set] at hj
    by_cases e : b.toNat = j
    · rw [if_pos e] at hj
      have ej : (j : Int) = b := by omega
      rw [ej, setW_same]
      split at hj
      · cases hj
        exact hv.go g
      · cases hj
    · rw [if_neg e] at hj
      rw [setW_ne (by omega)]
      exact (e3 j u hj).go g
  · obtain ⟨ws, k1, k2⟩ := D.waL
    exact ⟨ws, by rw [upd_ne D.ne.symm]; exact k1, Paired.mapP k2 fun a b z => z.go g⟩
theorem DiskAt.look (D : DiskAt K dk dxd he wa H n held q) (h0 : 0 ≤ b) (h1 : b < n) : ∃ hs v, H he = some (.lst hs) ∧ atI hs b = some v ∧ WdV K H v (held b) := by
  obtain ⟨hs, e1, e2, e3⟩ := D.heldL
  have hj : b.toNat < hs.length := by omega
  have e : ((b.toNat : Nat) : Int) = b := Int.toNat_of_nonneg h0
  have hv := e3 b.toNat _ (List.getElem?_eq_getElem hj)
  rw [e] at hv
  exact ⟨hs, _, e1, atI_of h0 (List.getElem?_eq_getElem hj), hv⟩
theorem paired_erase {α β : Type} {F : α → β → Prop} : ∀ {l : List α} {m : List β} (i : Nat), Paired F l m → Paired F (l.eraseIdx i) (m.eraseIdx i)
  | _, _, _, .nil => .nil
  | _, _, 0, .cons _ t => t
  | _, _, i + 1, .cons r t => .cons r (paired_erase i t)
theorem DiskAt.setQ (D : DiskAt K dk dxd he wa H n held q) {ws : List V} {q' : List Op} (h : Paired (OpV K H) ws q') (hl : q'.length ≤ 64) : Go [wa] H (upd H wa (.lst ws)) ∧ DiskAt K dk dxd he wa (upd H wa (.lst ws)) n held q' := by
  obtain ⟨hs, e1, e2, e3⟩ := D.heldL
  obtain ⟨ws0, k1, k2⟩ := D.waL
  have g : Go [wa] H (upd H wa (.lst ws)) := Go.put List.mem_cons_self (by rw [k1]; trivial)
  refine ⟨g, by rw [upd_ne D.neW]; exact D.ins, ⟨hs, by rw [upd_ne D.ne]; exact e1, e2, fun j v e => (e3 j v e).go g⟩, ⟨ws, upd_same, Paired.mapP h fun a b z => z.go g⟩, D.ne, D.n0, hl⟩
end
def opR (K : PySem.W.Frag) (H : Hp) (v : V) (o : Op) (w : Wd) : Prop := ∃ vo u, TupIs K H v [vo, u] ∧ OpV K H vo o ∧ WdV K H u w
def heldDo (held : Int → Wd) : Op → Int → Wd
  | .wr b w _ => setW held b w
  | .rd _ _ => held
def sp_Disk_do (K : PySem.W.Frag) : Sp := fun vs H Q _ => vs.length = 2 ∧ ∃ dk dxd he wa n held qu i, vs = [.ref dk, .int i] ∧ DiskAt K dk dxd he wa H n held qu ∧ 0 ≤ i ∧ i < 4 ∧ (∀ o ∈ qu, 0 ≤ o.blk ∧ o.blk < n) ∧
  (qu = [] → Q .non H) ∧
  ∀ (j : Nat) o v H', qu[j]? = some o → Go [he, wa] H H' → DiskAt K dk dxd he wa H' n (heldDo held o) (qu.eraseIdx j) → opR K H' v o (heldDo held o o.blk) → Q v H'
section
variable {P : Program} {w : World} {K : PySem.W.Frag} {mg : Str → Option Value} {base : Heap}
theorem ok_Disk_do (T : Txt w K mg)  : C8.Met P w K mg base 1 (He.ga K "Disk") "do" (sp_Disk_do K) [] := by
  refine met_go T.f_Disk_do T.k_Disk T.me_Disk_do sc_Disk_do (fun _ _ _ _ _ _ us hl => match us, hl with | [_, _], _ => rfl) (fun _ _ _ _ h => h.1) fun cdv A outer s H vs Q E hr h => ?_
  refine ⟨_, (pss_cons (ps_if (pt_not (pt_truth (pe_fldK K rfl (pv 0) rfl) (by intro _; rfl))) (pss_one (ps_ret pe_non)) pss_nil)
    (pss_cons (ps_set (i := 2) sc_Disk_do.nd rfl (by first | exact Or.inl rfl | exact Or.inr rfl) (pe_bm PySem.F.plainAttrs_list PySem.F.slot_list_pop PySem.F.type_list_pop mt_popAt (pe_fldK K rfl (pv 0) rfl) (pa_cons (pe_op op_mod (pe_callTy call_int1 (by rfl) T.b_int (by decide +kernel) (pa_cons (pv 1) pa_nil)) (pe_callB (show CallR _ _ (rLen K) from call_len) (by rfl) T.b_len PySem.boot_len (pa_cons (pe_fldK K rfl (pv 0) rfl) pa_nil))) pa_nil)))
    (pss_cons (ps_if (pt_cmpR op_eq (pe_ix (show IxR _ (rIxT K) from ix_tup) (pv 2) pe_int (fun _ _ => rfl)) pe_str (nomark _)) (pss_one (ps_asg (pe_ix (show IxR _ (rIxT K) from ix_tup) (pv 2) pe_int (fun _ _ => rfl)) (pg_sub (pe_fldK K rfl (pv 0) rfl) (pe_ix (show IxR _ (rIxT K) from ix_tup) (pv 2) pe_int (fun _ _ => rfl)) set_list))) pss_nil)
    (pss_one (ps_ret (pe_tup (pa_cons (pv 2) (pa_cons (pe_ix (show IxR _ (rIxL K) from ix_list) (pe_fldK K rfl (pv 0) rfl) (pe_ix (show IxR _ (rIxT K) from ix_tup) (pv 2) pe_int (fun _ _ => rfl)) (fun _ _ => rfl)) pa_nil)))))))), ?_⟩
  obtain ⟨_, dk, dxd, he, wa, n, held, qu, i, rfl, D, hi0, hi, hr, q0, q⟩ := h
  obtain ⟨ws, h1, h2⟩ := D.waL
  have hlen := h2.length
  have hql := D.ql
  by_cases hz : qu = []
  · have hw : ws = [] := List.eq_nil_of_length_eq_zero (by rw [hlen, hz]; rfl)
    rw [hw] at h1
    refine ⟨_, rfl, _, _, _, _, _, rfl, D.ins, T.k_Disk, T.na_Disk_waiting, rfl, false, .inl ⟨[], .inl (.inl h1), rfl⟩, ?_⟩
    exact q0 hz
  · have hp : 0 < qu.length := List.length_pos_iff.mpr hz
    have hm0 : 0 ≤ i % (ws.length : Int) := Int.emod_nonneg _ (by omega)
    have hm1 : i % (ws.length : Int) < ws.length := Int.emod_lt_of_pos _ (by omega)
    have hws : (!ws.isEmpty) = true := by
      cases ws with
      | nil => simp at hlen; omega
      | cons a r => rfl
    refine ⟨_, rfl, _, _, _, _, _, rfl, D.ins, T.k_Disk, T.na_Disk_waiting, rfl, true, .inl ⟨ws, .inl (.inl h1), hws.symm⟩, ?_⟩
    have hj : (i % (ws.length : Int)).toNat < ws.length := by omega
    have hj2 : (i % (ws.length : Int)).toNat < qu.length := by omega
    obtain ⟨o, ho, hov⟩ := paired_at h2 (List.getElem?_eq_getElem hj)
    have hix : ixN ws.length (i % (ws.length : Int)) = some (i % (ws.length : Int)).toNat := by
      unfold ixN
      rw [if_pos hm0, if_pos (by omega)]
    refine ⟨_, rfl, _, _, _, _, _, rfl, D.ins, T.k_Disk, T.na_Disk_waiting, rfl, .inl ⟨rfl, ws, .inl (.inl h1)⟩, _, rfl, .inl ⟨i, rfl, _, rfl, _, _, _, _, _, rfl, D.ins, T.k_Disk, T.na_Disk_waiting, rfl, _, ws.length, rfl, .inl ⟨ws, .inl (.inl h1), rfl⟩, i, _, rfl, rfl, by omega, ?_⟩⟩
    refine ⟨wa, ws, _, _, _, rfl, rfl, h1, by omega, by omega, (ixN_seq hix).1, List.getElem?_eq_getElem hj, ?_⟩
    generalize (i % (ws.length : Int)).toNat = j at hj hj2 ho hov ⊢
    obtain ⟨g1, D1⟩ := D.setQ (paired_erase j h2) (Nat.le_trans (List.length_eraseIdx_le ..) hql)
    have hov1 := hov.go g1
    generalize ws[j] = vo at hov hov1 ⊢
    generalize upd H wa (.lst (ws.eraseIdx j)) = H1 at g1 D1 hov1 ⊢
    have hb := hr o (List.mem_of_getElem? ho)
    cases o with
    | wr b w e =>
      obtain ⟨u, ⟨a, rfl, ha⟩, hu⟩ := hov1
      have hb : 0 ≤ b ∧ b < n := hb
      refine ⟨_, rfl, a, _, 0, _, rfl, rfl, ha, rfl, rfl, true, rfl, ?_⟩
      obtain ⟨hs, s1, s2, s3, s4⟩ := D1.store hb.1 hb.2 hu
      refine ⟨_, rfl, a, _, 2, _, rfl, rfl, ha, rfl, ?_⟩
      refine ⟨_, rfl, _, _, _, _, _, rfl, D1.ins, T.k_Disk, T.na_Disk_held, rfl, _, rfl, a, _, 1, _, rfl, rfl, ha, rfl, he, hs, b, _, rfl, rfl, s1, s2, ?_⟩
      generalize upd H1 he (.lst (hs.set b.toNat u)) = H2 at s3 s4 ⊢
      obtain ⟨hs2, v2, t1, t2, t3⟩ := s4.look hb.1 hb.2
      refine ⟨_, rfl, _, rfl, _, _, _, _, _, rfl, s4.ins, T.k_Disk, T.na_Disk_held, rfl, _, rfl, a, _, 1, _, rfl, rfl, s3.tup ha, rfl, he, hs2, b, v2, rfl, rfl, .inl (.inl t1), t2, (by decide : 2 ≤ sizeLine), fun p hp => ?_⟩
      have g3 : Go [] H2 (upd H2 p (.tup [.ref a, v2])) := Go.new hp
      refine q j _ _ _ ho ((g1.mono (by simp)).trans ((s3.mono (by simp)).trans g3.lift)) (s4.go g3 (by simp)) ⟨.ref a, v2, ⟨p, rfl, .inl (.inl upd_same)⟩, ⟨u, ⟨a, rfl, g3.tup (s3.tup ha)⟩, (hu.go s3).go g3⟩, t3.go g3⟩
    | rd b e =>
      obtain ⟨a, rfl, ha⟩ := hov1
      have hb : 0 ≤ b ∧ b < n := hb
      refine ⟨_, rfl, a, _, 0, _, rfl, rfl, ha, rfl, rfl, false, rfl, ?_⟩
      obtain ⟨hs2, v2, t1, t2, t3⟩ := D1.look hb.1 hb.2
      refine ⟨_, rfl, _, rfl, _, _, _, _, _, rfl, D1.ins, T.k_Disk, T.na_Disk_held, rfl, _, rfl, a, _, 1, _, rfl, rfl, ha, rfl, he, hs2, b, v2, rfl, rfl, .inl (.inl t1), t2, (by decide : 2 ≤ sizeLine), fun p hp => ?_⟩
      have g3 : Go [] H1 (upd H1 p (.tup [.ref a, v2])) := Go.new hp
      refine q j _ _ _ ho ((g1.mono (by simp)).trans g3.lift) (D1.go g3 (by simp)) ⟨.ref a, v2, ⟨p, rfl, .inl (.inl upd_same)⟩, ⟨a, rfl, g3.tup ha⟩, t3.go g3⟩
end
def cutH : (Int → Wd) → List Op → List Bool → Int → Wd
  | held, [], _ => held
  | held, .rd _ _ :: r, _ :: cs => cutH held r cs
  | held, .rd _ _ :: r, [] => cutH held r []
  | held, .wr b w _ :: r, c :: cs => cutH (if c = true then setW held b w else held) r cs
  | held, .wr _ _ _ :: r, [] => cutH held r []
def cutO (held : Int → Wd) : Op → Bool → Int → Wd
  | .wr b w _, true => setW held b w
  | _, _ => held
theorem cut_snoc : ∀ (l : List Op) (o : Op) (held : Int → Wd) (cs : List Bool), cutH held (l ++ [o]) cs = cutO (cutH held l cs) o (cs.getD l.length false)
  | [], .wr b w e, held, [] => rfl
  | [], .wr b w e, held, c :: cs => by cases c <;> rfl
  | [], .rd b e, held, [] => rfl
  | [], .rd b e, held, c :: cs => by cases c <;> rfl
  | .wr b w e :: r, o, held, [] => by
    have := cut_snoc r o held []
    simpa [cutH] using this
  | .wr b w e :: r, o, held, c :: cs => by
    have := cut_snoc r o (if c = true then setW held b w else held) cs
    simpa [cutH] using this
  | .rd b e :: r, o, held, [] => by
    have := cut_snoc r o held []
    simpa [cutH] using this
  | .rd b e :: r, o, held, c :: cs => by
    have := cut_snoc r o held cs
    simpa [cutH] using this
def sp_Disk_cut (K : PySem.W.Frag) : Sp := fun vs H Q _ => vs.length = 2 ∧ ∃ dk dxd he wa n held qu c, ∃ cs : List Int, vs = [.ref dk, .ref c] ∧ DiskAt K dk dxd he wa H n held qu ∧ H c = some (.lst (cs.map V.int)) ∧ (c ≠ he ∧ c ≠ wa) ∧ (∀ o ∈ qu, 0 ≤ o.blk ∧ o.blk < n) ∧
  ∀ H' wa', Go [dk, he] H H' → H wa' = none → DiskAt K dk dxd he wa' H' n (cutH held qu (cs.map fun x => decide (x % 2 = 1))) [] → Q .non H'
section
variable {P : Program} {w : World} {K : PySem.W.Frag} {mg : Str → Option Value} {base : Heap}
theorem ok_Disk_cut (T : Txt w K mg)  : C8.Met P w K mg base 1 (He.ga K "Disk") "cut" (sp_Disk_cut K) [] := by
  refine met_go T.f_Disk_cut T.k_Disk T.me_Disk_cut sc_Disk_cut (fun _ _ _ _ _ _ us hl => match us, hl with | [_, _], _ => rfl) (fun _ _ _ _ h => h.1) fun cdv A outer s H vs Q E hr h => ?_
  refine ⟨_, (pss_cons (ps_for PassesOwn.never rfl (pi_range1 (by rfl) T.b_range (pa_cons (pe_callB (show CallR _ _ (rLen K) from call_len) (by rfl) T.b_len PySem.boot_len (pa_cons (pe_fldK K rfl (pv 0) rfl) pa_nil)) pa_nil)) (pg_name (i := 2) sc_Disk_cut.nd rfl (by first | exact Or.inl rfl | exact Or.inr rfl)) (pss_cons (ps_set (i := 3) sc_Disk_cut.nd rfl (by first | exact Or.inl rfl | exact Or.inr rfl) (pe_ix (show IxR _ (rIxL K) from ix_list) (pe_fldK K rfl (pv 0) rfl) (pv 2) (fun _ _ => rfl)))
    (pss_one (ps_if (PW.pt (pw_and (pt_cmpR op_eq (pe_ix (show IxR _ (rIxT K) from ix_tup) (pv 3) pe_int (fun _ _ => rfl)) pe_str (nomark _)) (pw_and (pt_cmpR op_lt (pv 2) (pe_callB (show CallR _ _ (rLen K) from call_len) (by rfl) T.b_len PySem.boot_len (pa_cons (pv 1) pa_nil)) (nomark _)) (pw_and1 (pt_cmpR op_eq (pe_op op_mod (pe_ix (show IxR _ (rIxL K) from ix_list) (pv 1) (pv 2) (fun _ _ => rfl)) pe_int) pe_int (nomark _)))))) (pss_one (ps_asg (pe_ix (show IxR _ (rIxT K) from ix_tup) (pv 3) pe_int (fun _ _ => rfl)) (pg_sub (pe_fldK K rfl (pv 0) rfl) (pe_ix (show IxR _ (rIxT K) from ix_tup) (pv 3) pe_int (fun _ _ => rfl)) set_list))) pss_nil))))
    (pss_one (ps_fld (pv 0) (pe_lst pa_nil) rfl))), ?_⟩
  obtain ⟨_, dk, dxd, he, wa, n, held, qu, c, cs, rfl, D, hc, ne, hr, q⟩ := h
  obtain ⟨ws, h1, h2⟩ := D.waL
  have hlen := h2.length
  have hql := D.ql
  refine ⟨_, rfl, _, _, _, _, _, rfl, D.ins, T.k_Disk, T.na_Disk_waiting, rfl, _, ws.length, rfl, .inl ⟨ws, .inl (.inl h1), rfl⟩, _, rfl, by omega, by omega, ?_⟩
  refine for_it wk_range (fun i σ H' => i ≤ qu.length ∧ ∃ x2 x3, σ = [some (.ref dk), some (.ref c), x2, x3] ∧ Go [he] H H' ∧ DiskAt K dk dxd he wa H' n (cutH held (qu.take i) (cs.map fun x => decide (x % 2 = 1))) qu) ⟨Nat.zero_le _, _, _, rfl, Go.refl, D⟩ (fun _ _ _ _ _ => trivial) ?_ ?_
  · rintro i x σ H0 H' hi ⟨hil, x2, x3, rfl, g1, D1⟩ ⟨rfl, rfl⟩
    obtain ⟨ws1, k1, k2⟩ := D1.waL
    have hlen1 := k2.length
    have hi1 : i < ws1.length := by omega
    obtain ⟨o, ho, hov⟩ := paired_at k2 (List.getElem?_eq_getElem hi1)
    have hb := hr o (List.mem_of_getElem? ho)
    have e0 : (0 + (i : Int)).toNat = i := by omega
    have hc1 : H' c = some (.lst (cs.map V.int)) := g1.fr _ _ hc (by simpa using ne.1)
    have et : cutH held (qu.take (i + 1)) (cs.map fun x => decide (x % 2 = 1)) = cutO (cutH held (qu.take i) (cs.map fun x => decide (x % 2 = 1))) o ((cs.map fun x => decide (x % 2 = 1)).getD i false) := by
      have e1 : qu.take (i + 1) = qu.take i ++ [o] := by rw [List.take_add_one, ho] <;> rfl
      rw [e1, cut_snoc, List.length_take, Nat.min_eq_left hil]
    refine ⟨_, rfl, _, _, _, _, _, rfl, D1.ins, T.k_Disk, T.na_Disk_waiting, rfl, _, rfl, wa, ws1, _, _, rfl, rfl, .inl (.inl k1), atI_of (by omega) (by rw [e0]; exact List.getElem?_eq_getElem hi1), ?_⟩
    generalize ws1[i] = vo at hov ⊢
    cases o with
    | rd b e =>
      obtain ⟨a, rfl, ha⟩ := hov
      refine ⟨_, rfl, a, _, 0, _, rfl, rfl, ha, rfl, rfl, false, rfl, ?_⟩
      exact ⟨by omega, _, _, rfl, g1, by rw [et]; exact D1⟩
    | wr b w e =>
      obtain ⟨u, ⟨a, rfl, ha⟩, hu⟩ := hov
      have hb : 0 ≤ b ∧ b < n := hb
      refine ⟨_, rfl, a, _, 0, _, rfl, rfl, ha, rfl, rfl, true, rfl, ?_⟩
      refine ⟨_, rfl, _, rfl, _, (cs.map V.int).length, rfl, .inl ⟨_, .inl (.inl hc1), rfl⟩, _, _, rfl, rfl, _, rfl, ?_⟩
      rw [List.length_map]
      by_cases hlt : (0 + (i : Int)) < (cs.length : Int)
      · rw [decide_eq_true hlt]
        have hic : i < cs.length := by omega
        refine ⟨_, rfl, _, rfl, c, _, _, _, rfl, rfl, .inl (.inl hc1), atI_of (by omega) (by rw [e0]; exact map_get (List.getElem?_eq_getElem hic)), _, 2, rfl, rfl, (by decide : (0 : Int) < 2), rfl, _, rfl, ?_⟩
        have eg : (cs.map fun x => decide (x % 2 = 1)).getD i false = decide (cs[i] % 2 = 1) := by simp [List.getD, List.getElem?_map, List.getElem?_eq_getElem hic]
        rw [dec_int]
        by_cases h1 : cs[i] % 2 = 1
        · rw [h1]
          obtain ⟨hs, s1, s2, s3, s4⟩ := D1.store hb.1 hb.2 hu
          refine ⟨_, rfl, a, _, 2, _, rfl, rfl, ha, rfl, ?_⟩
          refine ⟨_, rfl, _, _, _, _, _, rfl, D1.ins, T.k_Disk, T.na_Disk_held, rfl, _, rfl, a, _, 1, _, rfl, rfl, ha, rfl, he, hs, b, _, rfl, rfl, s1, s2, ?_⟩
          exact ⟨by omega, _, _, rfl, g1.trans s3, by rw [et, eg, decide_eq_true h1]; exact s4⟩
        · rw [beq_eq_false_iff_ne.mpr h1]
          exact ⟨by omega, _, _, rfl, g1, by rw [et, eg, decide_eq_false h1]; exact D1⟩
      · rw [decide_eq_false hlt]
        have eg : (cs.map fun x => decide (x % 2 = 1)).getD i false = false := by
          have : cs[i]? = none := List.getElem?_eq_none (by omega)
          simp [List.getD, List.getElem?_map, this]
        exact ⟨by omega, _, _, rfl, g1, by rw [et, eg]; exact D1⟩
  · rintro σ H' ⟨hil, x2, x3, rfl, g1, D1⟩
    have el : ((ws.length : Int)).toNat = qu.length := by omega
    rw [el, List.take_length] at D1
    refine ⟨(by decide : 0 ≤ sizeLine), fun w2 hw2 => ?_⟩
    have g2 : Go [] H' (upd H' w2 (.lst [])) := Go.new hw2
    have D2 := D1.go g2 (by simp)
    have nd : dk ≠ w2 := ne_of_none D1.ins hw2
    obtain ⟨hs, e1, e2, e3⟩ := D2.heldL
    have nh : he ≠ w2 := by
      obtain ⟨hs', e1', _⟩ := D1.heldL
      exact ne_of_none e1' hw2
    refine ⟨_, rfl, _, _, _, _, rfl, D2.ins, T.k_Disk, T.na_Disk_waiting, by simp, ?_⟩
    have g3 : Go [dk] (upd H' w2 (.lst [])) (upd (upd H' w2 (.lst [])) dk (.ins (He.ga K "Disk") dxd (putF "waiting" (.ref w2) [("blocks", .int n), ("held", .ref he), ("waiting", .ref wa)]))) := Go.put List.mem_cons_self (by rw [D2.ins]; trivial)
    refine q _ w2 ((g1.mono (by simp)).trans (g2.lift.trans (g3.mono (by simp)))) (g1.free hw2) ⟨upd_same, ⟨hs, by rw [upd_ne D.neH.symm]; exact e1, e2, fun j v ej => (e3 j v ej).go g3⟩, ⟨[], by rw [upd_ne nd.symm]; exact upd_same, .nil⟩, nh, D.n0, Nat.zero_le _⟩
end
def sp_disk_from (K : PySem.W.Frag) : Sp := fun vs H Q _ => vs.length = 1 ∧ ∃ p hs n held, vs = [.ref p] ∧ H p = some (.lst hs) ∧ (hs.length : Int) = n ∧ (24 ≤ n ∧ n ≤ 64) ∧ (∀ (j : Nat) v, hs[j]? = some v → WdV K H v (held (j : Int)) ∧ Okw (held (j : Int))) ∧
  ∀ H' dk dxd he wa, Go [] H H' → H dk = none → H he = none → H wa = none → dk ≠ he → dk ≠ wa → DiskAt K dk dxd he wa H' n held [] → Q (.ref dk) H'
section
variable {P : Program} {w : World} {K : PySem.W.Frag} {mg : Str → Option Value} {base : Heap}
theorem ok_disk_from (T : Txt w K mg) (c_is_words : C8.Cal P w K mg base 3 "is_words" (sp_is_words K) []) (c_Disk_init : C8.Mak P w K mg base 2 "Disk" (He.ga K "Disk") (sp_Diskinit K) []) : C8.Cal P w K mg base 4 "disk_from" (sp_disk_from K) [] := by
  refine cal_go T.f_disk_from T.o_disk_from sc_disk_from (fun _ _ _ _ _ _ us hl => match us, hl with | [_], _ => rfl) (fun _ _ _ _ h => h.1) fun cdv A outer s H vs Q E hr h => ?_
  refine ⟨_, (pss_cons (ps_if (PW.pt (pw_or (pt_not (pt_val (pe_callB (show CallR _ _ (rIsi K) from call_isi) (by rfl) T.b_isinstance (by decide +kernel) (pa_cons (pv 0) (pa_cons (pe_bltn (v := .ty "list") (by rfl) T.b_list (by decide +kernel) rfl) pa_nil))))) (pw_or1 (pt_not (pt_val (pe_callB (cr_all rfl) (by rfl) T.b_all (by decide +kernel) (pa_cons (pe_lc (own := [("words", 2)]) rfl sc_disk_from.nd (pi_list (pv 0)) (blkOk_by (own := [("words", 2)]) (N := n_disk_from) (sc := defScope s_disk_from) (by decide +kernel)) (fun _ _ _ _ _ => (pg_name (i := 2) sc_disk_from.nd rfl (by first | exact Or.inl rfl | exact Or.inr rfl))) (fun _ _ _ _ _ => pts_nil) (fun _ _ _ _ _ => (C8.pe_c c_is_words hr (by decide) (by rfl) (pa_cons (pv 2) pa_nil)))) pa_nil))))))) (pss_one ps_never) pss_nil)
    (pss_cons (ps_set (i := 1) sc_disk_from.nd rfl (by first | exact Or.inl rfl | exact Or.inr rfl) (C8.pe_mk c_Disk_init hr (by decide) (by rfl) (pa_cons (pe_callB (show CallR _ _ (rLen K) from call_len) (by rfl) T.b_len PySem.boot_len (pa_cons (pv 0) pa_nil)) pa_nil)))
    (pss_cons (ps_fld (pv 1) (pe_callTy call_list_of (by rfl) T.b_list (by decide +kernel) (pa_cons (pv 0) pa_nil)) rfl)
    (pss_one (ps_ret (pv 1)))))), ?_⟩
  obtain ⟨_, p, hs, n, held, rfl, hp, hl, hn, hh, q⟩ := h
  refine ⟨_, rfl, _, _, _, _, true, rfl, .ty _, .base (.lst hp), kit_ty (by decide +kernel), true, rfl, ?_⟩
  refine ⟨_, rfl, p, rfl, ⟨_, .inl (.inl hp)⟩, ?_⟩
  refine lc_go (Z := []) (fun i acc _ => acc = (List.replicate i true).map V.bl) wk_list (le_sl (by omega)) no_z (fun H' g => .inl (.inl (g.at hp))) (fun _ _ => rfl) (fun _ _ _ _ _ _ h _ => h) ?_ ?_
  · intro i x acc H' hi hx hl g hR K1 K2 k1 k2
    obtain ⟨z1, z2⟩ := hh i x hx
    refine ⟨rfl, _, rfl, rfl, x, _, rfl, z1.go g, z2, fun H2 g2 => k1 _ _ g2 ?_⟩
    rw [hR, List.replicate_succ', List.map_append] <;> rfl
  · intro L acc H1 hD g1 hacc hl2 hR
    subst hR
    refine ⟨L, _, rfl, .inl (.inl hacc), true, congrArg V.bl (by rw [List.all_replicate]; simp), ?_⟩
    have hp1 := g1.at hp
    refine ⟨_, rfl, _, hs.length, rfl, .inl ⟨_, .inl (.inl hp1), rfl⟩, fun x dx hx hdx nd => ?_⟩
    have g2 : Go [] H1 (upd (upd H1 dx (.own x)) x (.ins (He.ga K "Disk") dx [])) := (Go.new hdx).trans (Go.new (by rw [upd_ne nd.symm]; exact hx))
    refine ⟨rfl, x, dx, n, by rw [← hl]; rfl, upd_same, hn, fun H3 he wa g3 hhe hwa D => ⟨rfl, ?_⟩⟩
    have nxp : p ≠ x := ne_of_none hp1 hx
    have hp3 : H3 p = some (.lst hs) := g3.fr _ _ (g2.at hp1) (by simpa using nxp)
    refine ⟨_, rfl, p, hs, rfl, .inl (.inl (.inl hp3)), fun l hL => ?_⟩
    have g4 : Go [] H3 (upd H3 l (.lst hs)) := Go.new hL
    have D4 := D.go g4 (by simp)
    refine ⟨_, rfl, _, _, _, _, rfl, D4.ins, T.k_Disk, T.na_Disk_held, by simp, ?_⟩
    have g5 : Go [x] (upd H3 l (.lst hs)) (upd (upd H3 l (.lst hs)) x (.ins (He.ga K "Disk") dx (putF "held" (.ref l) [("blocks", .int n), ("held", .ref he), ("waiting", .ref wa)]))) := Go.put List.mem_cons_self (by rw [D4.ins]; trivial)
    have nxl : x ≠ l := ne_of_none D.ins hL
    obtain ⟨ws, w1, w2⟩ := D4.waL
    have nlw : l ≠ wa := by
      obtain ⟨ws', w1', _⟩ := D.waL
      exact (ne_of_none w1' hL).symm
    have gg : Go [x] H (upd (upd H3 l (.lst hs)) x (.ins (He.ga K "Disk") dx (putF "held" (.ref l) [("blocks", .int n), ("held", .ref he), ("waiting", .ref wa)]))) := g1.lift.trans (g2.lift.trans (g3.trans (g4.lift.trans g5)))
    have hx0 : H x = none := g1.free hx
    refine ⟨_, rfl, q _ x dx l wa ⟨fun a o ha _ => gg.fr a o ha (by simpa using ne_of_none ha hx0), gg.tk, gg.fk, gg.th⟩ hx0 ?_ (g1.free (g2.free hwa)) nxl D.neW ⟨upd_same, ⟨hs, ?_, hl, fun j v ej => (hh j v ej).1.go gg⟩, ⟨ws, by rw [upd_ne D.neW.symm]; exact w1, Paired.mapP w2 fun a b z => z.go g5⟩, nlw, hn, Nat.zero_le _⟩⟩
    · exact g1.free (g2.free (g3.free hL))
    · rw [upd_ne nxl.symm]
      exact upd_same
end

end SH

set_option Elab.async false
set_option linter.all false
set_option maxRecDepth 100000
set_option maxHeartbeats 4000000
namespace SH
open PySem PySem.Spec PyProof.Rows L2
/-! ### what a clause tells, plainly -/
def gdF (x : Int) : Bool := decide (Builtin.bitAnd x 255 = 1)
def guOk (w : Wd) (g : Int × Int × Int) : Bool := decide (Builtin.bitAnd (wAt w g.1.toNat) g.2.1 = g.2.2)
def wsC (c : Cl) (w : Wd) : List Int := if c.gs.all (guOk w) = true then (w.drop c.st.toNat).take c.mn.toNat else []
def kdC (c : Cl) (k : Int) : Int := c.kd.getD k
def entC (w : Wd) (k : Int) (c : Cl) : List (Int × Int) := (wsC c w).map fun x => (x, kdC c k)
theorem pick_app {n : Int} : ∀ (a b acc : List (Int × Int)), pick n (a ++ b) acc = (pick n a acc).bind (pick n b)
  | [], b, acc => rfl
  | (x, k) :: r, b, acc => by
    show pick n ((x, k) :: (r ++ b)) acc = _
    unfold pick
    by_cases h0 : x = 0
    · rw [if_pos h0, if_pos h0]
      exact pick_app r b acc
    · rw [if_neg h0, if_neg h0]
      by_cases h1 : 4 ≤ x ∧ x < n ∧ ¬ x ∈ acc.map (·.1)
      · rw [if_pos h1, if_pos h1]
        exact pick_app r b _
      · rw [if_neg h1, if_neg h1]
        rfl
theorem len8 {w : Wd} (h : w.length = 8) : ∃ a b c d e f g i, w = [a, b, c, d, e, f, g, i] := by
  match w, h with
  | [a, b, c, d, e, f, g, i], _ => exact ⟨a, b, c, d, e, f, g, i, rfl⟩
theorem gd0 : gdF 0 = false := by decide +kernel
theorem own_prog {n k : Int} {w : Wd} (h : w.length = 8) (hk : k = 2 ∨ k = 3) (p : List Cl) (hp : p = if k = 2 then prog2 else prog3) : own n gdF k w = pick n (p.flatMap (entC w k)) [] := by
  obtain ⟨x0, x1, x2, x3, x4, x5, x6, x7, rfl⟩ := len8 h
  rcases hk with rfl | rfl
  · subst hp
    rfl
  · subst hp
    show pick n (if gdF x7 = true then ents3 _ else []) [] = pick n (entC _ 3 ⟨[(7, 255, 1)], 0, 4, some 0⟩ ++ []) []
    have e : entC [x0, x1, x2, x3, x4, x5, x6, x7] 3 ⟨[(7, 255, 1)], 0, 4, some 0⟩ = if gdF x7 = true then ents3 [x0, x1, x2, x3, x4, x5, x6, x7] else [] := by
      unfold entC wsC
      show List.map _ (if ([(7, 255, 1)] : List (Int × Int × Int)).all (guOk [x0, x1, x2, x3, x4, x5, x6, x7]) = true then _ else _) = _
      have e2 : ([(7, 255, 1)] : List (Int × Int × Int)).all (guOk [x0, x1, x2, x3, x4, x5, x6, x7]) = gdF x7 := by
        rw [List.all_cons, List.all_nil, Bool.and_true]
        rfl
      rw [e2]
      split <;> rfl
    rw [e, List.append_nil]
theorem Fnd.len {n : Int} {cs : List (Int × Int)} (h : Fnd n cs) (hn : n ≤ 64) : cs.length ≤ 64 := by
  have q := nodup_le (l := cs.map (·.1)) (m := (List.range 64).map fun (i : Nat) => (i : Int)) h.1 fun x hx => by
    obtain ⟨p, hp, e⟩ := List.mem_map.mp hx
    obtain ⟨h1, h2, _⟩ := h.2 p hp
    refine List.mem_map.mpr ⟨x.toNat, List.mem_range.mpr (by omega), by omega⟩
  simpa using q
theorem wsC_len {c : Cl} (hc : c ∈ prog2 ++ prog3) (w : Wd) : (wsC c w).length ≤ 4 := by
  unfold wsC
  simp only [prog2, prog3, List.cons_append, List.nil_append, List.mem_cons, List.not_mem_nil, or_false] at hc
  split
  · rw [List.length_take]
    rcases hc with rfl | rfl | rfl <;> simp <;> omega
  · simp
theorem cl_ok {c : Cl} (hc : c ∈ prog2 ++ prog3) : c.ok := by
  simp only [prog2, prog3, List.cons_append, List.nil_append, List.mem_cons, List.not_mem_nil, or_false] at hc
  rcases hc with rfl | rfl | rfl <;> simp [Cl.ok, Wok]
def sp_words_of (K : PySem.W.Frag) : Sp := fun vs H Q _ => vs.length = 2 ∧ ∃ v u c w, vs = [v, u] ∧ ClV K H v c ∧ c ∈ prog2 ++ prog3 ∧ WdV K H u w ∧ w.length = 8 ∧ ∀ H' v', Go [] H H' → WdV K H' v' (wsC c w) → Q v' H'
section
variable {P : Program} {w : World} {K : PySem.W.Frag} {mg : Str → Option Value} {base : Heap}
theorem ok_words_of (T : Txt w K mg)  : C8.Cal P w K mg base 1 "words_of" (sp_words_of K) [] := by
  refine cal_go T.f_words_of T.o_words_of sc_words_of (fun _ _ _ _ _ _ us hl => match us, hl with | [_, _], _ => rfl) (fun _ _ _ _ h => h.1) fun cdv A outer s H vs Q E hr h => ?_
  refine ⟨_, (pss_cons (ps_asg (pv 0) (pg_tupK K (n := 4) rfl rfl (pgs_cons (pg_name (i := 2) sc_words_of.nd rfl (by first | exact Or.inl rfl | exact Or.inr rfl)) (pgs_cons (pg_name (i := 3) sc_words_of.nd rfl (by first | exact Or.inl rfl | exact Or.inr rfl)) (pgs_cons (pg_name (i := 4) sc_words_of.nd rfl (by first | exact Or.inl rfl | exact Or.inr rfl)) (pgs_cons (pg_name (i := 5) sc_words_of.nd rfl (by first | exact Or.inl rfl | exact Or.inr rfl)) pgs_nil))))))
    (pss_cons (ps_for PassesOwn.never rfl (pi_tup (pv 2)) (pg_tupK K (n := 3) rfl rfl (pgs_cons (pg_name (i := 6) sc_words_of.nd rfl (by first | exact Or.inl rfl | exact Or.inr rfl)) (pgs_cons (pg_name (i := 7) sc_words_of.nd rfl (by first | exact Or.inl rfl | exact Or.inr rfl)) (pgs_cons (pg_name (i := 8) sc_words_of.nd rfl (by first | exact Or.inl rfl | exact Or.inr rfl)) pgs_nil)))) (pss_one (ps_if (pt_cmpR op_ne (pe_op op_and (pe_ix (show IxR _ (rIxT K) from ix_tup) (pv 1) (pv 6) (fun _ _ => rfl)) (pv 7)) (pv 8) (nomark _)) (pss_one (ps_ret (pe_tup pa_nil))) pss_nil)))
    (pss_cons (ps_if (pt_val (pe_callB (show CallR _ _ (rIsi K) from call_isi) (by rfl) T.b_isinstance (by decide +kernel) (pa_cons (pv 4) (pa_cons (pe_bltn (v := .ty "tuple") (by rfl) T.b_tuple (by decide +kernel) rfl) pa_nil)))) (pss_one (ps_set (i := 4) sc_words_of.nd rfl (by first | exact Or.inl rfl | exact Or.inr rfl) (pe_ix (show IxR _ (rIxT K) from ix_tup) (pv 1) (pe_ix (show IxR _ (rIx K) from ix_seq) (pv 4) pe_int (fun _ _ => rfl)) (fun _ _ => rfl)))) pss_nil)
    (pss_one (ps_ret (pe_slice (show SlR _ (rSlT K) from sl_tup) (pv 1) (po_some (pv 3)) (po_some (pe_callB (call_min2 rfl) (by rfl) T.b_min (by decide +kernel) (pa_cons (C8.pe_gc (by rfl) T.g_WORDS) (pa_cons (pe_op op_add (pv 3) (pv 4)) pa_nil)))))))))), ?_⟩
  obtain ⟨_, v, u, c, w, rfl, ⟨gt, gs, ⟨a, rfl, ha⟩, ⟨b, rfl, hb⟩, hg⟩, hc, ⟨d, rfl, hd⟩, hw, q⟩ := h
  have ok := cl_ok hc
  obtain ⟨hc1, hc2, hc3, hc4, hc5, hc6⟩ := ok
  have hgl : gs.length = c.gs.length := hg.length
  refine ⟨_, rfl, a, _, rfl, ha, rfl, _, _, rfl, _, _, rfl, _, _, rfl, _, _, rfl, rfl, ?_⟩
  refine ⟨_, rfl, b, rfl, ⟨_, hb⟩, ?_⟩
  refine for_it wk_tup (fun i σ H' => H' = H ∧ (∃ x6 x7 x8, σ = [some (.ref a), some (.ref d), some (.ref b), some (.int c.st), some (.int c.mn), some (kdV c.kd), x6, x7, x8]) ∧ (c.gs.take i).all (guOk w) = true) ⟨rfl, ⟨_, _, _, rfl⟩, rfl⟩ (fun i σ H' _ p => by rw [p.1]; exact hb) ?_ ?_
  · rintro i x σ H0 H' hi ⟨e0, ⟨x6, x7, x8, rfl⟩, hall⟩ ⟨rfl, hx⟩
    subst e0
    obtain ⟨g, hgi, ⟨p, rfl, hp⟩⟩ := paired_at hg hx
    obtain ⟨z1, z2, z3⟩ := hc2 g (List.mem_of_getElem? hgi)
    refine ⟨p, _, rfl, hp, rfl, _, _, rfl, _, _, rfl, _, _, rfl, rfl, ?_⟩
    have hi7 : g.1.toNat < w.length := by omega
    have e1 : c.gs.take (i + 1) = c.gs.take i ++ [g] := by rw [List.take_add_one, hgi] <;> rfl
    refine ⟨_, rfl, _, rfl, d, _, _, _, rfl, rfl, hd, atI_of z1.1 (map_get (List.getElem?_eq_getElem hi7)), _, rfl, _, _, rfl, rfl, _, rfl, rfl, _, rfl, ?_⟩
    have ew : w[g.1.toNat] = wAt w g.1.toNat := by unfold wAt; rw [List.getD_eq_getElem?_getD, List.getElem?_eq_getElem hi7]; rfl
    rw [dec_int, ew]
    by_cases hgo : Builtin.bitAnd (wAt w g.1.toNat) g.2.1 = g.2.2
    · rw [hgo, beq_self_eq_true]
      refine ⟨rfl, ⟨_, _, _, rfl⟩, ?_⟩
      rw [e1, List.all_append, hall, List.all_cons, List.all_nil]
      unfold guOk
      rw [decide_eq_true hgo]
      rfl
    · rw [beq_eq_false_iff_ne.mpr hgo]
      refine ⟨(by decide : 0 ≤ sizeLine), fun p hp => q _ _ (Go.new hp) ⟨p, rfl, .inl (.inl ?_)⟩⟩
      rw [upd_same]
      have e2 : wsC c w = [] := by
        unfold wsC
        rw [if_neg]
        intro hh
        have := List.all_eq_true.mp hh g (List.mem_of_getElem? hgi)
        unfold guOk at this
        exact hgo (of_decide_eq_true this)
      rw [e2]
      rfl
  · rintro σ H' ⟨rfl, ⟨x6, x7, x8, rfl⟩, hall⟩
    rw [hgl, List.take_length] at hall
    have ew : wsC c w = (w.drop c.st.toNat).take c.mn.toNat := by
      unfold wsC
      rw [if_pos hall]
    refine ⟨_, rfl, _, _, _, _, false, rfl, .ty _, .base (.int _), kit_ty (by decide +kernel), false, rfl, ?_⟩
    rw [ew] at q
    obtain ⟨x0, x1, x2, x3, x4, x5, x6, x7, rfl⟩ := len8 hw
    simp only [prog2, prog3, List.cons_append, List.nil_append, List.mem_cons, List.not_mem_nil, or_false] at hc
    have fin : ∀ (lo hi : Int) (ws : List Int) (Q' : VK), ¬ (HT.sIx 8 0 (some lo) = 0 ∧ HT.sIx 8 8 (some hi) = 8) → cutV ([x0, x1, x2, x3, x4, x5, x6, x7].map V.int) (some lo) (some hi) = ws.map V.int → (∀ H2 v', Go [] H' H2 → WdV K H2 v' ws → Q' v' H2) → rSlT K (.ref d) (some lo) (some hi) H' Q' := fun lo hi ws Q' h1 h2 h3 =>
      ⟨d, _, rfl, hd, h1, fun p hp => h3 _ _ (Go.new hp) ⟨p, rfl, .inl (.inl (by rw [upd_same, h2]))⟩⟩
    rcases hc with rfl | rfl | rfl
    · exact ⟨_, rfl, _, rfl, _, rfl, _, rfl, _, rfl, _, _, rfl, rfl, _, _, rfl, _, rfl, fin 0 2 [x0, x1] _ (by decide) rfl q⟩
    · exact ⟨_, rfl, _, rfl, _, rfl, _, rfl, _, rfl, _, _, rfl, rfl, _, _, rfl, _, rfl, fin 2 4 [x2, x3] _ (by decide) rfl q⟩
    · exact ⟨_, rfl, _, rfl, _, rfl, _, rfl, _, rfl, _, _, rfl, rfl, _, _, rfl, _, rfl, fin 0 4 [x0, x1, x2, x3] _ (by decide) rfl q⟩
end
def OwR (K : PySem.W.Frag) (H : Hp) (v : V) : Option (List (Int × Int)) → Prop
  | some cs => OwV K H v cs
  | none => v = .non
def seenM (acc : List (Int × Int)) : Int → Option Unit := fun b => if b ∈ acc.map (·.1) then some () else none
theorem seenM_snoc {acc : List (Int × Int)} {y k b : Int} : seenM (acc ++ [(y, k)]) b = setO (seenM acc) y (some ()) b := by
  unfold seenM
  rw [List.map_append]
  by_cases eb : b = y
  · subst eb
    rw [setO_same, if_pos (by simp)]
  · rw [setO_ne eb]
    by_cases ein : b ∈ acc.map (·.1)
    · rw [if_pos ein, if_pos (List.mem_append_left _ ein)]
    · rw [if_neg ein, if_neg]
      intro z
      rcases List.mem_append.mp z with z | z
      · exact ein z
      · simp at z
        exact eb z
structure RP (K : PySem.W.Frag) (H : Hp) (fl sd : Addr) (acc : List (Int × Int)) : Prop where
  fl : ∃ ps, H fl = some (.lst (ps.map V.ref)) ∧ Paired (fun p c => SqT K H p [.int c.1, .int c.2]) ps acc
  sd : ∃ kvs, H sd = some (.dK kvs) ∧ MapR kvs (seenM acc) FrV
theorem RP.go {K : PySem.W.Frag} {H H' : Hp} {fl sd : Addr} {acc : List (Int × Int)} (h : RP K H fl sd acc) (g : Go [] H H') : RP K H' fl sd acc :=
  ⟨let ⟨ps, h1, h2⟩ := h.fl; ⟨ps, g.at h1, Paired.mapP h2 fun p c z => g.tup z⟩, let ⟨kvs, h1, h2⟩ := h.sd; ⟨kvs, g.at h1, h2⟩⟩
def sp_run_program (K : PySem.W.Frag) : Sp := fun vs H Q _ => vs.length = 4 ∧ ∃ v u n k p w, vs = [v, u, .int n, .int k] ∧ PrV K H v p ∧ (p = prog2 ∨ p = prog3) ∧ WdV K H u w ∧ w.length = 8 ∧ n ≤ 64 ∧ GK k ∧
  ∀ H' v', Go [] H H' → OwR K H' v' (pick n (p.flatMap (entC w k)) []) → Q v' H'
section
variable {P : Program} {w : World} {K : PySem.W.Frag} {mg : Str → Option Value} {base : Heap}
theorem ok_run_program (T : Txt w K mg) (c_is_block : C8.Cal P w K mg base 1 "is_block" (sp_is_block K) []) (c_words_of : C8.Cal P w K mg base 1 "words_of" (sp_words_of K) []) : C8.Cal P w K mg base 2 "run_program" (sp_run_program K) [] := by
  refine cal_go T.f_run_program T.o_run_program sc_run_program (fun _ _ _ _ _ _ us hl => match us, hl with | [_, _, _, _], _ => rfl) (fun _ _ _ _ h => h.1) fun cdv A outer s H vs Q E hr h => ?_
  have hu := hu_of hr
  refine ⟨_, (pss_cons (ps_set (i := 4) sc_run_program.nd rfl (by first | exact Or.inl rfl | exact Or.inr rfl) (pe_lst pa_nil))
    (pss_cons (ps_set (i := 5) sc_run_program.nd rfl (by first | exact Or.inl rfl | exact Or.inr rfl) pe_dnewK)
    (pss_cons (ps_for PassesOwn.never rfl (pi_tup (pv 0)) (pg_name (i := 6) sc_run_program.nd rfl (by first | exact Or.inl rfl | exact Or.inr rfl)) (pss_cons (ps_set (i := 7) sc_run_program.nd rfl (by first | exact Or.inl rfl | exact Or.inr rfl) (pe_ix (show IxR _ (rIxT K) from ix_tup) (pv 6) pe_int (fun _ _ => rfl)))
    (pss_cons (ps_if (pt_cmpR op_eq (pv 7) (C8.pe_gc (by rfl) T.g_OWN) (nomark _)) (pss_one (ps_set (i := 7) sc_run_program.nd rfl (by first | exact Or.inl rfl | exact Or.inr rfl) (pv 3))) pss_nil)
    (pss_one (ps_for PassesOwn.never rfl (pi_tup (C8.pe_c c_words_of hr (by decide) (by rfl) (pa_cons (pv 6) (pa_cons (pv 1) pa_nil)))) (pg_name (i := 8) sc_run_program.nd rfl (by first | exact Or.inl rfl | exact Or.inr rfl)) (pss_one (ps_if (pt_cmpR op_ne (pv 8) pe_int (nomark _)) (pss_cons (ps_if (PW.pt (pw_or (pt_not (pt_val (C8.pe_c c_is_block hr (by decide) (by rfl) (pa_cons (pv 8) (pa_cons (pv 2) pa_nil))))) (pw_or1 (pt_cmp (pc_din hu (pv 8) (pv 5)))))) (pss_one (ps_ret pe_non)) pss_nil)
    (pss_cons (ps_dput hu (pv 5) (pv 8) pe_bl rfl)
    (pss_one (ps_expr (pe_bm PySem.F.plainAttrs_list PySem.F.slot_list_append PySem.F.type_list_append mt_append (pv 4) (pa_cons (pe_tup (pa_cons (pv 8) (pa_cons (pv 7) pa_nil))) pa_nil)))))) pss_nil)))))))
    (pss_one (ps_ret (pe_callTy call_tupleF (by rfl) T.b_tuple (by decide +kernel) (pa_cons (pv 4) pa_nil))))))), ?_⟩
  obtain ⟨_, v, u, n, k, p, w, rfl, ⟨vs, ⟨a, rfl, ha⟩, hv⟩, hp, ⟨d, rfl, hd⟩, hw, hn, hk, q⟩ := h
  have hpc : ∀ c ∈ p, c ∈ prog2 ++ prog3 := fun c hc => by
    rcases hp with rfl | rfl
    · exact List.mem_append_left _ hc
    · exact List.mem_append_right _ hc
  refine ⟨(by decide : 0 ≤ sizeLine), fun fl hfl => ?_⟩
  refine fun sd hsd => ?_
  have nfs : fl ≠ sd := ne_of_none upd_same hsd
  have g0 : Go [] H (upd (upd H fl (.lst [])) sd (.dK [])) := (Go.new hfl).trans (Go.new hsd)
  have r0 : RP K (upd (upd H fl (.lst [])) sd (.dK [])) fl sd [] := ⟨⟨[], by rw [upd_ne nfs]; exact upd_same, .nil⟩, ⟨[], upd_same, MapR.nil.congr fun b => rfl⟩⟩
  have hfl0 := hfl
  have hsd0 : H sd = none := (Go.new (Z := []) hfl).free hsd
  generalize upd (upd H fl (.lst [])) sd (.dK []) = H0 at g0 r0 ⊢
  refine ⟨_, rfl, a, rfl, ⟨_, g0.tup ha⟩, ?_⟩
  refine for_it wk_tup (fun i σ H' => ∃ x6 x7 x8 acc, σ = [some (.ref a), some (.ref d), some (.int n), some (.int k), some (.ref fl), some (.ref sd), x6, x7, x8] ∧ Go [] H H' ∧ RP K H' fl sd acc ∧ Fnd n acc ∧ pick n ((p.take i).flatMap (entC w k)) [] = some acc) ⟨_, _, _, [], rfl, g0, r0, Fnd.nil, rfl⟩ (fun i σ H' _ p => by obtain ⟨_, _, _, _, _, g, _⟩ := p; exact g.tup ha) ?_ ?_
  · rintro i x σ H00 H1 hi ⟨x6, x7, x8, acc, rfl, g1, r1, hF, hpk⟩ ⟨rfl, hx⟩
    obtain ⟨c, hci, hcv⟩ := paired_at hv hx
    have hcm := hpc c (List.mem_of_getElem? hci)
    have e1 : p.take (i + 1) = p.take i ++ [c] := by rw [List.take_add_one, hci] <;> rfl
    have e2 : pick n ((p.take (i + 1)).flatMap (entC w k)) [] = pick n (entC w k c) acc := by
      rw [e1, List.flatMap_append, pick_app, hpk]
      simp
    have e3 : ∀ m : Nat, pick n ((entC w k c).take m) acc = none → pick n (p.flatMap (entC w k)) [] = none := fun m hm => by
      rw [← List.take_append_drop (i + 1) p, List.flatMap_append, pick_app, e2, ← List.take_append_drop m (entC w k c), pick_app, hm]
      rfl
    have hkd := (cl_ok hcm).2.2.2.2.1
    have hcv1 := hcv.go g1
    have hkk : GK (kdC c k) := by
      unfold kdC
      rcases hkd with e | e <;> rw [e]
      · exact hk
      · exact .inl rfl
    obtain ⟨cgs, cst, cmn, ckd⟩ := c
    have hcv2 := hcv1
    obtain ⟨gt, gs, ⟨ca, rfl, hca⟩, hgt, hgs⟩ := hcv1
    refine ⟨_, rfl, ca, _, 3, _, rfl, rfl, hca, rfl, ?_⟩
    have fin : ∀ x8 : Option V, tFor (iTup K (tCall (sp_words_of K) [] C8.E0 (tCons (tVar 6) (tCons (tVar 1) tNil)))) (gName 8)
        (tIfS (tTest (tOp rNe (tVar 8) (tC (V.int 0)))) (tSeq (tIfS (tOr (tNot (tB (tCall (sp_is_block K) [] C8.E0 (tCons (tVar 8) (tCons (tVar 2) tNil))))) (tB (tDIn (tVar 8) (tVar 5)))) (tRet (tC V.non)) tNext)
          (tSeq (sDPut (tVar 5) (tVar 8) (tC (V.bl true))) (tDrop (tBM K "list" rAppend (tVar 4) (tCons (tTup (tCons (tVar 8) (tCons (tVar 7) tNil))) tNil))))) tNext)
        { nx := fun σ' H' => ∃ x6 x7 x8 acc, σ' = [some (.ref a), some (.ref d), some (.int n), some (.int k), some (.ref fl), some (.ref sd), x6, x7, x8] ∧ Go [] H H' ∧ RP K H' fl sd acc ∧ Fnd n acc ∧ pick n ((p.take (i + 1)).flatMap (entC w k)) [] = some acc, rt := Q }
        [some (.ref a), some (.ref d), some (.int n), some (.int k), some (.ref fl), some (.ref sd), some (.ref ca), some (.int (kdC ⟨cgs, cst, cmn, ckd⟩ k)), x8] H1 := by
      intro x8
      refine ⟨_, rfl, _, rfl, rfl, .ref ca, .ref d, ⟨cgs, cst, cmn, ckd⟩, w, rfl, hcv2, hcm, ⟨d, rfl, g1.tup hd⟩, hw, fun H2 v2 g2 hws => ?_⟩
      obtain ⟨wa, rfl, hwa⟩ := hws
      refine ⟨wa, rfl, ⟨_, hwa⟩, ?_⟩
      have hl4 := wsC_len hcm w
      have r2 : RP K H2 fl sd acc := r1.go g2
      refine for_it wk_tup (fun j σ H' => ∃ x8 acc2, σ = [some (.ref a), some (.ref d), some (.int n), some (.int k), some (.ref fl), some (.ref sd), some (.ref ca), some (.int (kdC ⟨cgs, cst, cmn, ckd⟩ k)), x8] ∧ Go [] H H' ∧ SqT K H' wa ((wsC ⟨cgs, cst, cmn, ckd⟩ w).map V.int) ∧ RP K H' fl sd acc2 ∧ Fnd n acc2 ∧ pick n ((entC w k ⟨cgs, cst, cmn, ckd⟩).take j) acc = some acc2)
        ⟨_, acc, rfl, g1.trans g2, hwa, r2, hF, rfl⟩ (fun j σ H' _ p => by obtain ⟨_, _, _, _, h, _⟩ := p; exact h) ?_ ?_
      · rintro j x σ H0' H3 hj ⟨x8', acc2, rfl, g3, hwa3, r3, hF3, hp3⟩ ⟨rfl, hx3⟩
        obtain ⟨y, hy, rfl⟩ := map_at hx3
        have ey : (entC w k ⟨cgs, cst, cmn, ckd⟩).take (j + 1) = (entC w k ⟨cgs, cst, cmn, ckd⟩).take j ++ [(y, kdC ⟨cgs, cst, cmn, ckd⟩ k)] := by
          have : (entC w k ⟨cgs, cst, cmn, ckd⟩)[j]? = some (y, kdC ⟨cgs, cst, cmn, ckd⟩ k) := by
            unfold entC
            rw [List.getElem?_map, hy] <;> rfl
          rw [List.take_add_one, this] <;> rfl
        have e4 : pick n ((entC w k ⟨cgs, cst, cmn, ckd⟩).take (j + 1)) acc = pick n [(y, kdC ⟨cgs, cst, cmn, ckd⟩ k)] acc2 := by
          rw [ey, pick_app, hp3] <;> rfl
        refine ⟨_, rfl, rfl, _, rfl, ?_⟩
        rw [dec_int]
        by_cases hy0 : y = 0
        · rw [hy0, beq_self_eq_true]
          refine ⟨_, acc2, rfl, g3, hwa3, r3, hF3, ?_⟩
          rw [e4]
          unfold pick
          rw [if_pos hy0]
          rfl
        · rw [beq_eq_false_iff_ne.mpr hy0]
          refine ⟨_, rfl, _, rfl, rfl, y, n, rfl, _, rfl, ?_⟩
          by_cases hb : 4 ≤ y ∧ y < n
          · rw [decide_eq_true hb]
            obtain ⟨kvs, hk1, hk2⟩ := r3.sd
            obtain ⟨ps, hf1, hf2⟩ := r3.fl
            refine ⟨_, rfl, _, rfl, sd, _, rfl, DGet.k (k := Sum.inl y) hk1, _, rfl, ?_⟩
            rw [hk2.isSome]
            by_cases hm : y ∈ acc2.map (·.1)
            · have em : (seenM acc2 y).isSome = true := by unfold seenM; rw [if_pos hm]; rfl
              rw [em]
              refine q _ _ g3 ?_
              rw [e3 (j + 1) (by rw [e4]; unfold pick; rw [if_neg hy0, if_neg (fun z => z.2.2 hm)])]
              rfl
            · have em : (seenM acc2 y).isSome = false := by unfold seenM; rw [if_neg hm]; rfl
              rw [em]
              have hlen := Fnd.len hF3 hn
              have hkl : kvs.length ≤ 64 := hk2.len (n := 64) fun b x hbx => by
                unfold seenM at hbx
                split at hbx
                · rename_i hin
                  obtain ⟨pp, hpp, rfl⟩ := List.mem_map.mp hin
                  obtain ⟨z1, z2, _⟩ := hF3.2 pp hpp
                  omega
                · cases hbx
              have hpl := hf2.length
              refine ⟨_, rfl, _, rfl, sd, _, rfl, DPut.k (k := Sum.inl y) hk1 (lt_sl (by omega)), ?_⟩
              have g4 : Go [] H (upd H3 sd (.dK (putK kvs (.inl y) (.bl true)))) := g3.late hsd0
              have g4' : Go [sd] H3 (upd H3 sd (.dK (putK kvs (.inl y) (.bl true)))) := Go.put List.mem_cons_self (by rw [hk1]; trivial)
              have hf3 : upd H3 sd (.dK (putK kvs (.inl y) (.bl true))) fl = some (.lst (ps.map V.ref)) := by rw [upd_ne nfs]; exact hf1
              have hs3 : upd H3 sd (.dK (putK kvs (.inl y) (.bl true))) sd = some (.dK (putK kvs (.inl y) (.bl true))) := upd_same
              generalize upd H3 sd (.dK (putK kvs (.inl y) (.bl true))) = H4 at g4 g4' hf3 hs3 ⊢
              refine ⟨_, rfl, .inl ⟨rfl, _, .inl (.inl hf3)⟩, _, rfl, _, rfl, (by decide : 2 ≤ sizeLine), fun pp hpp => ?_⟩
              have g5 : Go [] H4 (upd H4 pp (.tup [.int y, .int (kdC ⟨cgs, cst, cmn, ckd⟩ k)])) := Go.new hpp
              have hpp5 : upd H4 pp (.tup [.int y, .int (kdC ⟨cgs, cst, cmn, ckd⟩ k)]) pp = some (.tup [.int y, .int (kdC ⟨cgs, cst, cmn, ckd⟩ k)]) := upd_same
              have hf5 := g5.at hf3
              have hs5 := g5.at hs3
              generalize upd H4 pp (.tup [.int y, .int (kdC ⟨cgs, cst, cmn, ckd⟩ k)]) = H5 at g5 hpp5 hf5 hs5 ⊢
              refine ⟨fl, ps.map V.ref, .ref pp, rfl, rfl, hf5, lt_sl (by rw [List.length_map]; omega), ?_⟩
              have g6 : Go [fl] H5 (upd H5 fl (.lst (ps.map V.ref ++ [.ref pp]))) := Go.put List.mem_cons_self (by rw [hf5]; trivial)
              have epk : pick n [(y, kdC ⟨cgs, cst, cmn, ckd⟩ k)] acc2 = some (acc2 ++ [(y, kdC ⟨cgs, cst, cmn, ckd⟩ k)]) := by
                unfold pick
                rw [if_neg hy0, if_pos ⟨hb.1, hb.2, hm⟩]
                rfl
              refine ⟨_, acc2 ++ [(y, kdC ⟨cgs, cst, cmn, ckd⟩ k)], rfl, (g4.trans g5).late hfl0, g6.tup (g5.tup (g4'.tup hwa3)), ⟨⟨ps ++ [pp], ?_, ?_⟩, ⟨_, by rw [upd_ne nfs.symm]; exact hs5, ?_⟩⟩, ?_, by rw [e4, epk]⟩
              · rw [upd_same, List.map_append] <;> rfl
              · refine paired_app (Paired.mapP hf2 fun p c z => g6.tup (g5.tup (g4'.tup z))) (.cons (g6.tup (.inl (.inl hpp5))) .nil)
              · exact (hk2.put (b := y) (x := ()) (v := .bl true) rfl).congr fun b => seenM_snoc
              · exact pick_fnd (es := [(y, kdC ⟨cgs, cst, cmn, ckd⟩ k)]) (fun p hp => by rw [List.mem_singleton.mp hp]; exact hkk) hF3 epk
          · rw [decide_eq_false hb]
            refine q _ _ g3 ?_
            rw [e3 (j + 1) (by rw [e4]; unfold pick; rw [if_neg hy0, if_neg (fun z => hb ⟨z.1, z.2.1⟩)])]
            rfl
      · rintro σ H3 ⟨x8', acc2, rfl, g3, hwa3, r3, hF3, hp3⟩
        refine ⟨_, _, _, acc2, rfl, g3, r3, hF3, ?_⟩
        rw [e2, ← hp3, List.length_map]
        congr 1
        rw [List.take_of_length_le]
        unfold entC
        rw [List.length_map]
        exact Nat.le_refl _
    rcases hkd with e | e
    · have e : ckd = none := e
      subst e
      exact ⟨_, rfl, rfl, true, rfl, _, rfl, fin _⟩
    · have e : ckd = some 0 := e
      subst e
      exact ⟨_, rfl, rfl, false, rfl, fin _⟩
  · rintro σ H1 ⟨x6, x7, x8, acc, rfl, g1, r1, hF, hpk⟩
    rw [hv.length, List.take_length] at hpk
    obtain ⟨ps, hf1, hf2⟩ := r1.fl
    refine ⟨_, rfl, fl, _, rfl, .inl (.inl hf1), fun l o hl ho => ?_⟩
    have g2 : Go [] H1 (upd H1 l (.frz o (.tup (ps.map V.ref)))) := Go.new hl
    refine q _ _ (g1.trans g2) ?_
    rw [hpk]
    exact ⟨l, o, ps, rfl, upd_same, ho, Paired.mapP hf2 fun p c z => g2.tup z⟩
end
def sp_Typesinit (K : PySem.W.Frag) : Sp := fun vs H Q _ => vs.length = 2 ∧ ∃ x dx n, vs = [.ref x, .int n] ∧ H x = some (.ins (He.ga K "Types") dx []) ∧
  ∀ H' kn mk, Go [x] H H' → H kn = none → H mk = none → x ≠ kn → x ≠ mk → TypesAt K x dx kn mk H' n [] [] → Q .non H'
section
variable {P : Program} {w : World} {K : PySem.W.Frag} {mg : Str → Option Value} {base : Heap}
theorem ok_Typesinit (T : Txt w K mg)  : C8.Mak P w K mg base 1 "Types" (He.ga K "Types") (sp_Typesinit K) [] := by
  refine mak_go T.f_Typesinit T.mk_Types T.o_Types sc_Typesinit (fun _ _ _ _ _ _ us hl => match us, hl with | [_, _], _ => rfl) (fun _ _ _ _ h => h.1) fun cdv A outer s H vs Q E hr h => ?_
  refine ⟨_, (pss_cons (ps_fld (pv 0) (pv 1) rfl)
    (pss_cons (ps_fld (pv 0) (pe_lst pa_nil) rfl)
    (pss_one (ps_fld (pv 0) (pe_lst pa_nil) rfl)))), ?_⟩
  obtain ⟨_, x, dx, n, rfl, hx, q⟩ := h
  refine ⟨_, rfl, _, rfl, _, _, _, _, rfl, hx, T.k_Types, T.na_Types_blocks, by decide, ?_⟩
  have h1x : upd H x (.ins (He.ga K "Types") dx (putF "blocks" (.int n) [])) x = some (.ins (He.ga K "Types") dx [("blocks", .int n)]) := upd_same
  have g1 : Go [x] H (upd H x (.ins (He.ga K "Types") dx (putF "blocks" (.int n) []))) := Go.put List.mem_cons_self (by rw [hx]; trivial)
  generalize upd H x (.ins (He.ga K "Types") dx (putF "blocks" (.int n) [])) = H1 at h1x g1 ⊢
  refine ⟨(by decide : 0 ≤ sizeLine), fun kn hkn => ?_⟩
  have nk : x ≠ kn := ne_of_none h1x hkn
  have g2 : Go [] H1 (upd H1 kn (.lst [])) := Go.new hkn
  have h2k : upd H1 kn (.lst []) kn = some (.lst []) := upd_same
  generalize upd H1 kn (.lst []) = H2 at g2 h2k ⊢
  have h2x := g2.at h1x
  refine ⟨_, rfl, _, _, _, _, rfl, h2x, T.k_Types, T.na_Types_known, by simp, ?_⟩
  have h3x : upd H2 x (.ins (He.ga K "Types") dx (putF "known" (.ref kn) [("blocks", .int n)])) x = some (.ins (He.ga K "Types") dx [("blocks", .int n), ("known", .ref kn)]) := upd_same
  have g3 : Go [x] H2 (upd H2 x (.ins (He.ga K "Types") dx (putF "known" (.ref kn) [("blocks", .int n)]))) := Go.put List.mem_cons_self (by rw [h2x]; trivial)
  have h3k : upd H2 x (.ins (He.ga K "Types") dx (putF "known" (.ref kn) [("blocks", .int n)])) kn = some (.lst []) := by rw [upd_ne nk.symm]; exact h2k
  generalize upd H2 x (.ins (He.ga K "Types") dx (putF "known" (.ref kn) [("blocks", .int n)])) = H3 at h3x h3k g3 ⊢
  refine ⟨(by decide : 0 ≤ sizeLine), fun mk hmk => ?_⟩
  have nm : x ≠ mk := ne_of_none h3x hmk
  have nkm : kn ≠ mk := ne_of_none h3k hmk
  have g4 : Go [] H3 (upd H3 mk (.lst [])) := Go.new hmk
  refine ⟨_, rfl, _, _, _, _, rfl, g4.at h3x, T.k_Types, T.na_Types_makers, by simp, ?_⟩
  have g5 : Go [x] (upd H3 mk (.lst [])) (upd (upd H3 mk (.lst [])) x (.ins (He.ga K "Types") dx (putF "makers" (.ref mk) [("blocks", .int n), ("known", .ref kn)]))) := Go.put List.mem_cons_self (by rw [g4.at h3x]; trivial)
  refine q _ kn mk (g1.trans (g2.lift.trans (g3.trans (g4.lift.trans g5)))) (g1.free hkn) ((g1.trans (g2.lift.trans g3)).free hmk) nk nm ⟨upd_same, ⟨[], ?_, .nil⟩, ?_, nkm⟩
  · rw [upd_ne nk.symm]
    exact g4.at h3k
  · rw [upd_ne nm.symm]
    exact upd_same
end
def sp_Types_count (K : PySem.W.Frag) : Sp := fun vs H Q _ => vs.length = 1 ∧ ∃ ty dxt kn mk n ps ms, vs = [.ref ty] ∧ TypesAt K ty dxt kn mk H n ps ms ∧ Q (.int (2 + (ps.length : Int))) H
section
variable {P : Program} {w : World} {K : PySem.W.Frag} {mg : Str → Option Value} {base : Heap}
theorem ok_Types_count (T : Txt w K mg)  : C8.Met P w K mg base 1 (He.ga K "Types") "count" (sp_Types_count K) [] := by
  refine met_go T.f_Types_count T.k_Types T.me_Types_count sc_Types_count (fun _ _ _ _ _ _ us hl => match us, hl with | [_], _ => rfl) (fun _ _ _ _ h => h.1) fun cdv A outer s H vs Q E hr h => ?_
  refine ⟨_, (pss_one (ps_ret (pe_op op_add (C8.pe_gc (by rfl) T.g_FIRST_TYPE) (pe_callB (show CallR _ _ (rLen K) from call_len) (by rfl) T.b_len PySem.boot_len (pa_cons (pe_fldK K rfl (pv 0) rfl) pa_nil))))), ?_⟩
  obtain ⟨_, ty, dxt, kn, mk, n, ps, ms, rfl, D, q⟩ := h
  obtain ⟨ks, k1, k2⟩ := D.knL
  refine ⟨_, rfl, _, _, _, _, _, rfl, D.ins, T.k_Types, T.na_Types_known, rfl, _, ks.length, rfl, .inl ⟨ks, .inl (.inl k1), rfl⟩, 2, _, rfl, rfl, ?_⟩
  rw [k2.length]
  exact q
end
def sp_Types_is_known (K : PySem.W.Frag) : Sp := fun vs H Q _ => vs.length = 2 ∧ ∃ ty dxt kn mk n ps ms i, vs = [.ref ty, .int i] ∧ TypesAt K ty dxt kn mk H n ps ms ∧ Q (.bl (decide (0 ≤ i ∧ i < 2 + (ps.length : Int)))) H
section
variable {P : Program} {w : World} {K : PySem.W.Frag} {mg : Str → Option Value} {base : Heap}
theorem ok_Types_is_known (T : Txt w K mg) (c_is_number : C8.Cal P w K mg base 1 "is_number" (sp_is_number K) []) (c_Types_count : C8.Met P w K mg base 1 (He.ga K "Types") "count" (sp_Types_count K) []) : C8.Met P w K mg base 2 (He.ga K "Types") "is_known" (sp_Types_is_known K) [] := by
  refine met_go T.f_Types_is_known T.k_Types T.me_Types_is_known sc_Types_is_known (fun _ _ _ _ _ _ us hl => match us, hl with | [_, _], _ => rfl) (fun _ _ _ _ h => h.1) fun cdv A outer s H vs Q E hr h => ?_
  refine ⟨_, (pss_one (ps_ret (pe_and (C8.pe_c c_is_number hr (by decide) (by rfl) (pa_cons (pv 1) pa_nil)) (pe_one (pe_chain op_le op_lt pe_int (pv 1) (C8.pe_mt0 c_Types_count hr (by decide) (pv 0))))))), ?_⟩
  obtain ⟨_, ty, dxt, kn, mk, n, ps, ms, i, rfl, D, q⟩ := h
  refine ⟨_, rfl, rfl, i, rfl, true, rfl, _, rfl, 0, i, rfl, rfl, _, rfl, ?_⟩
  by_cases h0 : 0 ≤ i
  · rw [decide_eq_true h0]
    refine ⟨_, rfl, ty, _, _, rfl, D.ins, rfl, rfl, ty, dxt, kn, mk, n, ps, ms, rfl, D, _, _, rfl, rfl, qB ?_ q⟩
    simp [h0]
  · rw [decide_eq_false h0]
    refine qB ?_ q
    simp [h0]
end
theorem gu_dp {K : PySem.W.Frag} {H : Hp} {v : V} {g : Int × Int × Int} (h : GuV K H v g) : Dp K H v (.tuple [.int g.1, .int g.2.1, .int g.2.2]) := by
  obtain ⟨a, rfl, ha⟩ := h
  exact .tup ha (.cons (.int _) (.cons (.int _) (.cons (.int _) .nil)))
theorem gs_dp {K : PySem.W.Frag} {H : Hp} : ∀ {vs : List V} {gs : List (Int × Int × Int)}, Paired (GuV K H) vs gs → DpAll K H vs (gs.map fun g => .tuple [.int g.1, .int g.2.1, .int g.2.2])
  | _, _, .nil => .nil
  | _, _, .cons r t => .cons (gu_dp r) (gs_dp t)
def kdD : Option Int → PyData
  | none => .str "own"
  | some k => .int k
theorem kd_dp {K : PySem.W.Frag} {H : Hp} (k : Option Int) : Dp K H (kdV k) (kdD k) := by
  cases k with
  | none => exact .str _
  | some k => exact .int _
def clD (c : Cl) : PyData := .tuple [.tuple (c.gs.map fun g => .tuple [.int g.1, .int g.2.1, .int g.2.2]), .int c.st, .int c.mn, kdD c.kd]
theorem cl_dp {K : PySem.W.Frag} {H : Hp} {v : V} {c : Cl} (h : ClV K H v c) : Dp K H v (clD c) := by
  obtain ⟨gt, gs, ⟨a, rfl, ha⟩, ⟨b, rfl, hb⟩, hg⟩ := h
  exact .tup ha (.cons (.tup hb (gs_dp hg)) (.cons (.int _) (.cons (.int _) (.cons (kd_dp _) .nil))))
theorem cs_dp {K : PySem.W.Frag} {H : Hp} : ∀ {vs : List V} {cs : List Cl}, Paired (ClV K H) vs cs → DpAll K H vs (cs.map clD)
  | _, _, .nil => .nil
  | _, _, .cons r t => .cons (cl_dp r) (cs_dp t)
def prD (cs : List Cl) : PyData := .tuple (cs.map clD)
theorem pr_dp {K : PySem.W.Frag} {H : Hp} {v : V} {cs : List Cl} (h : PrV K H v cs) : Dp K H v (prD cs) := by
  obtain ⟨vs, ⟨a, rfl, ha⟩, hv⟩ := h
  exact .tup ha (cs_dp hv)
theorem ps_dp {K : PySem.W.Frag} {H : Hp} : ∀ {vs : List V} {cs : List (List Cl)}, Paired (PrV K H) vs cs → DpAll K H vs (cs.map prD)
  | _, _, .nil => .nil
  | _, _, .cons r t => .cons (pr_dp r) (ps_dp t)
def sp_Types_add (K : PySem.W.Frag) : Sp := fun vs H Q _ => vs.length = 3 ∧ ∃ ty dxt kn mk n ps ms v p e, vs = [.ref ty, v, .int e] ∧ TypesAt K ty dxt kn mk H n ps ms ∧ PrV K H v p ∧
  ((p = prog2 ∧ ps = [] ∧ ms = []) ∨ (p = prog3 ∧ ps = [prog2] ∧ ms = [0])) ∧ (∀ H' v', Go [kn, mk] H H' → TypesAt K ty dxt kn mk H' n (ps ++ [p]) (ms ++ [e]) → Q v' H')
section
variable {P : Program} {w : World} {K : PySem.W.Frag} {mg : Str → Option Value} {base : Heap}
theorem ok_Types_add (T : Txt w K mg) (c_is_program : C8.Cal P w K mg base 5 "is_program" (sp_is_program K) []) (c_Types_count : C8.Met P w K mg base 1 (He.ga K "Types") "count" (sp_Types_count K) []) : C8.Met P w K mg base 6 (He.ga K "Types") "add" (sp_Types_add K) [] := by
  refine met_go T.f_Types_add T.k_Types T.me_Types_add sc_Types_add (fun _ _ _ _ _ _ us hl => match us, hl with | [_, _, _], _ => rfl) (fun _ _ _ _ h => h.1) fun cdv A outer s H vs Q E hr h => ?_
  have hu65 := hu65_of hr
  refine ⟨_, (pss_cons (ps_if (pt_not (pt_val (C8.pe_c c_is_program hr (by decide) (by rfl) (pa_cons (pv 1) (pa_cons (C8.pe_mt0 c_Types_count hr (by decide) (pv 0)) pa_nil))))) (pss_one (ps_ret pe_non)) pss_nil)
    (pss_cons (ps_if (pt_cmpR (op_inD hu65) (pv 1) (pe_fldK K rfl (pv 0) rfl) (by rfl)) (pss_one ps_never) pss_nil)
    (pss_cons (ps_if (pt_cmpR op_ge (pe_bm PySem.F.plainAttrs_list PySem.F.slot_list_count PySem.F.type_list_count mt_lcount (pe_fldK K rfl (pv 0) rfl) (pa_cons (pv 2) pa_nil)) (C8.pe_gc (by rfl) T.g_MOST_TYPES) (nomark _)) (pss_one (ps_ret pe_non)) pss_nil)
    (pss_cons (ps_expr (pe_bm PySem.F.plainAttrs_list PySem.F.slot_list_append PySem.F.type_list_append mt_append (pe_fldK K rfl (pv 0) rfl) (pa_cons (pv 1) pa_nil)))
    (pss_cons (ps_expr (pe_bm PySem.F.plainAttrs_list PySem.F.slot_list_append PySem.F.type_list_append mt_append (pe_fldK K rfl (pv 0) rfl) (pa_cons (pv 2) pa_nil)))
    (pss_one (ps_ret (pe_op op_sub (C8.pe_mt0 c_Types_count hr (by decide) (pv 0)) pe_int)))))))), ?_⟩
  obtain ⟨_, ty, dxt, kn, mk, n, ps, ms, v, p, e, rfl, D, hv, hp, q⟩ := h
  have hcl : p.length ≤ 8 ∧ ∀ c ∈ p, c.ok := by
    rcases hp with ⟨rfl, _⟩ | ⟨rfl, _⟩
    · exact ⟨by decide, fun c hc => cl_ok (List.mem_append_left _ hc)⟩
    · exact ⟨by decide, fun c hc => cl_ok (List.mem_append_right _ hc)⟩
  refine ⟨_, rfl, _, rfl, ty, _, _, rfl, D.ins, rfl, rfl, ty, dxt, kn, mk, n, ps, ms, rfl, D, rfl, v, _, p, rfl, hv, hcl.1, hcl.2, fun H1 g1 => ⟨true, rfl, ?_⟩⟩
  have D1 := D.go g1 (by simp)
  obtain ⟨ks, k1, k2⟩ := D1.knL
  have hv1 := hv.go g1
  have hin : SeqAt.shaped (prD p) = true ∧ SeqAt.shaped (.list (ps.map prD)) = true ∧ ((ps.map prD).any fun z => PyData.eqv z (prD p)) = false ∧ ms.count e < 4 ∧ ms.length ≤ 1 ∧ ps.length ≤ 1 := by
    rcases hp with ⟨rfl, rfl, rfl⟩ | ⟨rfl, rfl, rfl⟩
    · refine ⟨by decide +kernel, by decide +kernel, rfl, by simp, by simp, by simp⟩
    · refine ⟨by decide +kernel, by decide +kernel, by decide +kernel, ?_, by simp, by simp⟩
      refine Nat.lt_of_le_of_lt (List.count_le_length ..) ?_
      simp
  obtain ⟨i1, i2, i3, i4, i5, i6⟩ := hin
  refine ⟨_, rfl, _, rfl, _, _, _, _, _, rfl, D1.ins, T.k_Types, T.na_Types_known, rfl, prD p, ps.map prD, pr_dp hv1, .lst (.inl (.inl k1)) (ps_dp k2), i1, i2, _, rfl, ?_⟩
  rw [i3]
  refine ⟨_, rfl, _, _, _, _, _, rfl, D1.ins, T.k_Types, T.na_Types_makers, rfl, .inl ⟨rfl, _, .inl (.inl D1.mkL)⟩, _, rfl, mk, ms, e, rfl, rfl, .inl (.inl D1.mkL), _, 4, rfl, rfl, false, bF (by omega), ?_⟩
  have hkl := k2.length
  refine ⟨_, rfl, _, _, _, _, _, rfl, D1.ins, T.k_Types, T.na_Types_known, rfl, .inl ⟨rfl, _, .inl (.inl k1)⟩, _, rfl, kn, ks, v, rfl, rfl, k1, lt_sl (by omega), ?_⟩
  have nty : ty ≠ kn := ne_of D1.ins k1 (by simp)
  have ntm : ty ≠ mk := ne_of D1.ins D1.mkL (by simp)
  have g2 : Go [kn] H1 (upd H1 kn (.lst (ks ++ [v]))) := Go.put List.mem_cons_self (by rw [k1]; trivial)
  have h2t : upd H1 kn (.lst (ks ++ [v])) ty = some (.ins (He.ga K "Types") dxt [("blocks", .int n), ("known", .ref kn), ("makers", .ref mk)]) := by rw [upd_ne nty]; exact D1.ins
  have h2m : upd H1 kn (.lst (ks ++ [v])) mk = some (.lst (ms.map V.int)) := by rw [upd_ne D.ne.symm]; exact D1.mkL
  have h2k : upd H1 kn (.lst (ks ++ [v])) kn = some (.lst (ks ++ [v])) := upd_same
  generalize upd H1 kn (.lst (ks ++ [v])) = H2 at g2 h2t h2m h2k ⊢
  refine ⟨_, rfl, _, _, _, _, _, rfl, h2t, T.k_Types, T.na_Types_makers, rfl, .inl ⟨rfl, _, .inl (.inl h2m)⟩, _, rfl, mk, _, .int e, rfl, rfl, h2m, lt_sl (by rw [List.length_map]; omega), ?_⟩
  have g3 : Go [mk] H2 (upd H2 mk (.lst (ms.map V.int ++ [.int e]))) := Go.put List.mem_cons_self (by rw [h2m]; trivial)
  have D3 : TypesAt K ty dxt kn mk (upd H2 mk (.lst (ms.map V.int ++ [.int e]))) n (ps ++ [p]) (ms ++ [e]) := ⟨by rw [upd_ne ntm]; exact h2t, ⟨ks ++ [v], by rw [upd_ne D.ne]; exact h2k, paired_app (Paired.mapP k2 fun a b z => (z.go g2).go g3) (.cons ((hv1.go g2).go g3) .nil)⟩, by rw [upd_same, List.map_append]; rfl, D.ne⟩
  refine ⟨_, rfl, ty, _, _, rfl, D3.ins, rfl, rfl, ty, dxt, kn, mk, n, _, _, rfl, D3, _, _, rfl, rfl, ?_⟩
  exact q _ _ (g1.lift.trans ((g2.mono (by simp)).trans (g3.mono (by simp)))) D3
end
def sp_Types_owned (K : PySem.W.Frag) : Sp := fun vs H Q _ => vs.length = 3 ∧ ∃ ty dxt kn mk n ms k u w, vs = [.ref ty, .int k, u] ∧ TypesAt K ty dxt kn mk H n [prog2, prog3] ms ∧ (GK k ∨ k = 1) ∧ WdV K H u w ∧ w.length = 8 ∧ n ≤ 64 ∧
  ∀ H' v', Go [] H H' → OwR K H' v' (own n gdF k w) → Q v' H'
section
variable {P : Program} {w : World} {K : PySem.W.Frag} {mg : Str → Option Value} {base : Heap}
theorem ok_Types_owned (T : Txt w K mg) (c_is_block : C8.Cal P w K mg base 1 "is_block" (sp_is_block K) []) (c_run_program : C8.Cal P w K mg base 2 "run_program" (sp_run_program K) []) (c_Types_is_known : C8.Met P w K mg base 2 (He.ga K "Types") "is_known" (sp_Types_is_known K) []) : C8.Met P w K mg base 3 (He.ga K "Types") "owned" (sp_Types_owned K) [] := by
  refine met_go T.f_Types_owned T.k_Types T.me_Types_owned sc_Types_owned (fun _ _ _ _ _ _ us hl => match us, hl with | [_, _, _], _ => rfl) (fun _ _ _ _ h => h.1) fun cdv A outer s H vs Q E hr h => ?_
  refine ⟨_, (pss_cons (ps_if (pt_cmpR op_eq (pv 1) (C8.pe_gc (by rfl) T.g_DATA) (nomark _)) (pss_one (ps_ret (pe_tupF pa_nil))) pss_nil)
    (pss_cons (ps_if (pt_cmpR op_ne (pv 1) (C8.pe_gc (by rfl) T.g_ROOT) (nomark _)) (pss_one (ps_ret (C8.pe_c c_run_program hr (by decide) (by rfl) (pa_cons (pe_ix (show IxR _ (rIxL K) from ix_list) (pe_fldK K rfl (pv 0) rfl) (pe_op op_sub (pv 1) (C8.pe_gc (by rfl) T.g_FIRST_TYPE)) (fun _ _ => rfl)) (pa_cons (pv 2) (pa_cons (pe_fldK K rfl (pv 0) rfl) (pa_cons (pv 1) pa_nil))))))) pss_nil)
    (pss_cons (ps_if (pt_cmpR op_eq (pe_ix (show IxR _ (rIxT K) from ix_tup) (pv 2) pe_int (fun _ _ => rfl)) pe_int (nomark _)) (pss_one (ps_ret (pe_tupF pa_nil))) pss_nil)
    (pss_cons (ps_if (PW.pt (pw_or (pt_not (pt_val (C8.pe_c c_is_block hr (by decide) (by rfl) (pa_cons (pe_ix (show IxR _ (rIxT K) from ix_tup) (pv 2) pe_int (fun _ _ => rfl)) (pa_cons (pe_fldK K rfl (pv 0) rfl) pa_nil))))) (pw_or (pt_not (pt_val (C8.pe_mt c_Types_is_known hr (by decide) (pv 0) (pa_cons (pe_ix (show IxR _ (rIxT K) from ix_tup) (pv 2) pe_int (fun _ _ => rfl)) pa_nil)))) (pw_or1 (pt_cmpR op_eq (pe_ix (show IxR _ (rIxT K) from ix_tup) (pv 2) pe_int (fun _ _ => rfl)) (C8.pe_gc (by rfl) T.g_ROOT) (nomark _)))))) (pss_one (ps_ret pe_non)) pss_nil)
    (pss_one (ps_ret (pe_tupF (pa_cons (pe_tup (pa_cons (pe_ix (show IxR _ (rIxT K) from ix_tup) (pv 2) pe_int (fun _ _ => rfl)) (pa_cons (pe_ix (show IxR _ (rIxT K) from ix_tup) (pv 2) pe_int (fun _ _ => rfl)) pa_nil))) pa_nil)))))))), ?_⟩
  obtain ⟨_, ty, dxt, kn, mk, n, ms, k, u, w, rfl, D, hk, ⟨a, rfl, ha⟩, hw, hn, q⟩ := h
  obtain ⟨ks, k1, k2⟩ := D.knL
  refine ⟨_, rfl, rfl, _, rfl, ?_⟩
  rw [dec_int]
  by_cases h0 : k = 0
  · rw [h0, beq_self_eq_true]
    refine ⟨(by decide : 0 ≤ sizeLine), fun p o hp ho => q _ _ (Go.new hp) ?_⟩
    rw [h0]
    exact ⟨p, o, [], rfl, upd_same, ho, .nil⟩
  rw [beq_eq_false_iff_ne.mpr h0]
  refine ⟨_, rfl, rfl, _, rfl, ?_⟩
  rw [dec_int]
  by_cases h1 : k = 1
  · subst h1
    rw [beq_self_eq_true]
    have w0 : (w.map V.int)[0]? = some (.int (wAt w 0)) := by
      obtain ⟨x0, x1, x2, x3, x4, x5, x6, x7, rfl⟩ := len8 hw
      rfl
    have w1 : (w.map V.int)[1]? = some (.int (wAt w 1)) := by
      obtain ⟨x0, x1, x2, x3, x4, x5, x6, x7, rfl⟩ := len8 hw
      rfl
    have a0 : atI (w.map V.int) 0 = some (.int (wAt w 0)) := atI_of (by omega) w0
    have a1 : atI (w.map V.int) 1 = some (.int (wAt w 1)) := atI_of (by omega) w1
    refine ⟨_, rfl, a, _, 0, _, rfl, rfl, ha, a0, rfl, _, rfl, ?_⟩
    rw [dec_int]
    by_cases hz : wAt w 0 = 0
    · rw [hz, beq_self_eq_true]
      refine ⟨(by decide : 0 ≤ sizeLine), fun p o hp ho => q _ _ (Go.new hp) ?_⟩
      unfold own
      rw [if_neg h0, if_pos rfl, if_pos hz]
      exact ⟨p, o, [], rfl, upd_same, ho, .nil⟩
    · rw [beq_eq_false_iff_ne.mpr hz]
      refine ⟨_, rfl, a, _, 0, _, rfl, rfl, ha, a0, _, rfl, _, _, _, _, _, rfl, D.ins, T.k_Types, T.na_Types_blocks, rfl, rfl, wAt w 0, n, rfl, _, rfl, ?_⟩
      have eo : own n gdF 1 w = if (4 ≤ wAt w 0 ∧ wAt w 0 < n) ∧ (0 ≤ wAt w 1 ∧ wAt w 1 < 4) ∧ ¬ wAt w 1 = 1 then some [(wAt w 0, wAt w 1)] else none := by
        unfold own
        rw [if_neg h0, if_pos rfl, if_neg hz]
      rw [eo] at q
      by_cases hb : 4 ≤ wAt w 0 ∧ wAt w 0 < n
      · rw [decide_eq_true hb]
        refine ⟨_, rfl, ty, _, _, rfl, D.ins, rfl, _, rfl, a, _, 1, _, rfl, rfl, ha, a1, rfl, ty, dxt, kn, mk, n, _, ms, _, rfl, D, _, rfl, ?_⟩
        have e4 : (0 ≤ wAt w 1 ∧ wAt w 1 < 2 + (([prog2, prog3] : List (List Cl)).length : Int)) ↔ (0 ≤ wAt w 1 ∧ wAt w 1 < 4) := by
          show (0 ≤ wAt w 1 ∧ wAt w 1 < 2 + 2) ↔ _
          omega
        by_cases hk4 : 0 ≤ wAt w 1 ∧ wAt w 1 < 4
        · rw [decide_eq_true (e4.mpr hk4)]
          refine ⟨_, rfl, a, _, 1, _, rfl, rfl, ha, a1, rfl, _, rfl, ?_⟩
          rw [dec_int]
          by_cases h11 : wAt w 1 = 1
          · rw [h11, beq_self_eq_true]
            refine q _ _ Go.refl ?_
            rw [if_neg (fun z => z.2.2 h11)]
            rfl
          · rw [beq_eq_false_iff_ne.mpr h11]
            refine ⟨_, rfl, a, _, 0, _, rfl, rfl, ha, a0, _, rfl, a, _, 1, _, rfl, rfl, ha, a1, (by decide : 2 ≤ sizeLine), fun p hp => ⟨(by decide : 1 ≤ sizeLine), fun p2 o hp2 ho => ?_⟩⟩
            refine q _ _ ((Go.new hp).trans (Go.new hp2)) ?_
            rw [if_pos ⟨hb, hk4, h11⟩]
            exact ⟨p2, o, [p], rfl, upd_same, ho, .cons (Go.tup (Z := []) (Go.new hp2) (.inl (.inl upd_same))) .nil⟩
        · rw [decide_eq_false (fun z => hk4 (e4.mp z))]
          refine q _ _ Go.refl ?_
          rw [if_neg (fun z => hk4 z.2.1)]
          rfl
      · rw [decide_eq_false hb]
        refine q _ _ Go.refl ?_
        rw [if_neg (fun z => hb z.1)]
        rfl
  · rw [beq_eq_false_iff_ne.mpr h1]
    have hk2 : k = 2 ∨ k = 3 := by
      rcases hk with (e | e | e) | e
      · exact absurd e h0
      · exact .inl e
      · exact .inr e
      · exact absurd e h1
    obtain ⟨pv, hpv, hpr⟩ : ∃ pv, atI ks (k - 2) = some pv ∧ PrV K H pv (if k = 2 then prog2 else prog3) := by
      cases k2 with
      | cons r1 t =>
        cases t with
        | cons r2 t2 =>
          rcases hk2 with rfl | rfl
          · exact ⟨_, atI_of (by omega) rfl, r1⟩
          · exact ⟨_, atI_of (by omega) rfl, r2⟩
    refine ⟨_, rfl, _, _, _, _, _, rfl, D.ins, T.k_Types, T.na_Types_known, rfl, _, rfl, _, 2, rfl, rfl, kn, ks, k - 2, pv, rfl, rfl, .inl (.inl k1), hpv, _, rfl, _, rfl, _, _, _, _, _, rfl, D.ins, T.k_Types, T.na_Types_blocks, rfl, _, rfl, ?_⟩
    refine ⟨rfl, pv, .ref a, n, k, _, w, rfl, hpr, ?_, ⟨a, rfl, ha⟩, hw, hn, ?_, fun H' v' g hr2 => q _ _ g ?_⟩
    · rcases hk2 with rfl | rfl
      · exact .inl rfl
      · exact .inr rfl
    · rcases hk2 with rfl | rfl
      · exact .inr (.inl rfl)
      · exact .inr (.inr rfl)
    · rw [own_prog hw hk2 _ rfl]
      exact hr2
end
def sp_law_types (K : PySem.W.Frag) : Sp := fun vs H Q _ => vs.length = 1 ∧ ∃ n, vs = [.int n] ∧ ∀ H' ty dxt kn mk ms, Go [] H H' → H ty = none → H kn = none → H mk = none → TypesAt K ty dxt kn mk H' n [prog2, prog3] ms → Q (.ref ty) H'
section
variable {P : Program} {w : World} {K : PySem.W.Frag} {mg : Str → Option Value} {base : Heap}
theorem ok_law_types (T : Txt w K mg) (c_Types_add : C8.Met P w K mg base 6 (He.ga K "Types") "add" (sp_Types_add K) []) (c_Types_init : C8.Mak P w K mg base 1 "Types" (He.ga K "Types") (sp_Typesinit K) []) : C8.Cal P w K mg base 7 "_law_types" (sp_law_types K) [] := by
  refine cal_go T.f_law_types T.o_law_types sc_law_types (fun _ _ _ _ _ _ us hl => match us, hl with | [_], _ => rfl) (fun _ _ _ _ h => h.1) fun cdv A outer s H vs Q E hr h => ?_
  refine ⟨_, (pss_cons (ps_set (i := 1) sc_law_types.nd rfl (by first | exact Or.inl rfl | exact Or.inr rfl) (C8.pe_mk c_Types_init hr (by decide) (by rfl) (pa_cons (pv 0) pa_nil)))
    (pss_cons (ps_expr (C8.pe_mt c_Types_add hr (by decide) (pv 1) (pa_cons (pe_tup (pa_cons (pe_tup (pa_cons (pe_tup pa_nil) (pa_cons pe_int (pa_cons pe_int (pa_cons pe_str pa_nil))))) (pa_cons (pe_tup (pa_cons (pe_tup pa_nil) (pa_cons pe_int (pa_cons pe_int (pa_cons pe_int pa_nil))))) pa_nil))) (pa_cons pe_int pa_nil))))
    (pss_cons (ps_expr (C8.pe_mt c_Types_add hr (by decide) (pv 1) (pa_cons (pe_tup (pa_cons (pe_tup (pa_cons (pe_tup (pa_cons (pe_tup (pa_cons pe_int (pa_cons pe_int (pa_cons pe_int pa_nil)))) pa_nil)) (pa_cons pe_int (pa_cons pe_int (pa_cons pe_int pa_nil))))) pa_nil)) (pa_cons pe_int pa_nil))))
    (pss_one (ps_ret (pv 1)))))), ?_⟩
  obtain ⟨_, n, rfl, q⟩ := h
  refine ⟨_, rfl, fun x dx hx hdx nd => ?_⟩
  have g1 : Go [] H (upd (upd H dx (.own x)) x (.ins (He.ga K "Types") dx [])) := (Go.new hdx).trans (Go.new (by rw [upd_ne nd.symm]; exact hx))
  refine ⟨rfl, x, dx, n, rfl, upd_same, fun H1 kn mk g2 hkn hmk nk nm D => ⟨rfl, ?_⟩⟩
  have hkn0 := g1.free hkn
  have hmk0 := g1.free hmk
  have gA : Go [x] H H1 := g1.lift.trans g2
  have fix : ∀ {H2 : Hp}, Go [x, kn, mk] H H2 → Go [] H H2 := fun g => ⟨fun a o ha _ => g.fr a o ha (by
    have := ne_of_none ha hx
    have := ne_of_none ha hkn0
    have := ne_of_none ha hmk0
    simp [*]), g.tk, g.fk, g.th⟩
  refine ⟨_, rfl, x, _, _, rfl, D.ins, rfl, ?_⟩
  refine ⟨(by decide : 0 ≤ sizeLine), fun p1 h1 => ⟨(by decide : 4 ≤ sizeLine), fun p2 h2 => ⟨(by decide : 0 ≤ sizeLine), fun p3 h3 => ⟨(by decide : 4 ≤ sizeLine), fun p4 h4 => ⟨(by decide : 2 ≤ sizeLine), fun p5 h5 => ?_⟩⟩⟩⟩⟩
  have e1 : Go [] H1 (upd H1 p1 (.tup [])) := Go.new h1
  have t1 : SqT K (upd H1 p1 (.tup [])) p1 [] := .inl (.inl upd_same)
  generalize upd H1 p1 (.tup []) = G1 at e1 t1 h2 h3 h4 h5 ⊢
  have e2 : Go [] G1 (upd G1 p2 (.tup [.ref p1, .int 0, .int 2, .str "own"])) := Go.new h2
  have t2 : SqT K (upd G1 p2 (.tup [.ref p1, .int 0, .int 2, .str "own"])) p2 [.ref p1, .int 0, .int 2, .str "own"] := .inl (.inl upd_same)
  generalize upd G1 p2 (.tup [.ref p1, .int 0, .int 2, .str "own"]) = G2 at e2 t2 h3 h4 h5 ⊢
  have e3 : Go [] G2 (upd G2 p3 (.tup [])) := Go.new h3
  have t3 : SqT K (upd G2 p3 (.tup [])) p3 [] := .inl (.inl upd_same)
  generalize upd G2 p3 (.tup []) = G3 at e3 t3 h4 h5 ⊢
  have e4 : Go [] G3 (upd G3 p4 (.tup [.ref p3, .int 2, .int 2, .int 0])) := Go.new h4
  have t4 : SqT K (upd G3 p4 (.tup [.ref p3, .int 2, .int 2, .int 0])) p4 [.ref p3, .int 2, .int 2, .int 0] := .inl (.inl upd_same)
  generalize upd G3 p4 (.tup [.ref p3, .int 2, .int 2, .int 0]) = G4 at e4 t4 h5 ⊢
  have e5 : Go [] G4 (upd G4 p5 (.tup [.ref p2, .ref p4])) := Go.new h5
  have t5 : SqT K (upd G4 p5 (.tup [.ref p2, .ref p4])) p5 [.ref p2, .ref p4] := .inl (.inl upd_same)
  generalize upd G4 p5 (.tup [.ref p2, .ref p4]) = G5 at e5 t5 ⊢
  have e45 := e4.trans e5
  have e35 := e3.trans e45
  have e25 := e2.trans e35
  have pv : PrV K G5 (.ref p5) prog2 := ⟨_, ⟨p5, rfl, t5⟩, .cons ⟨.ref p1, [], ⟨p2, rfl, e35.tup t2⟩, ⟨p1, rfl, e25.tup t1⟩, .nil⟩ (.cons ⟨.ref p3, [], ⟨p4, rfl, e5.tup t4⟩, ⟨p3, rfl, e45.tup t3⟩, .nil⟩ .nil)⟩
  have D5 := D.go (e1.trans e25) (by simp)
  refine ⟨rfl, x, dx, kn, mk, n, [], [], .ref p5, prog2, 0, rfl, D5, pv, .inl ⟨rfl, rfl, rfl⟩, fun H2 v2 g3 D2 => ?_⟩
  have gB : Go [x, kn, mk] H H2 := (gA.mono (by simp)).trans ((e1.trans e25).lift.trans (g3.mono (by simp)))
  clear t1 t2 t3 t4 t5 e1 e2 e3 e4 e5 e45 e35 e25 pv D5 h1 h2 h3 h4 h5
  clear p1 p2 p3 p4 p5
  refine ⟨_, rfl, x, _, _, rfl, D2.ins, rfl, ?_⟩
  refine ⟨(by decide : 3 ≤ sizeLine), fun p1 h1 => ⟨(by decide : 1 ≤ sizeLine), fun p2 h2 => ⟨(by decide : 4 ≤ sizeLine), fun p3 h3 => ⟨(by decide : 1 ≤ sizeLine), fun p4 h4 => ?_⟩⟩⟩⟩
  have e1 : Go [] H2 (upd H2 p1 (.tup [.int 7, .int 255, .int 1])) := Go.new h1
  have t1 : SqT K (upd H2 p1 (.tup [.int 7, .int 255, .int 1])) p1 [.int 7, .int 255, .int 1] := .inl (.inl upd_same)
  generalize upd H2 p1 (.tup [.int 7, .int 255, .int 1]) = F1 at e1 t1 h2 h3 h4 ⊢
  have e2 : Go [] F1 (upd F1 p2 (.tup [.ref p1])) := Go.new h2
  have t2 : SqT K (upd F1 p2 (.tup [.ref p1])) p2 [.ref p1] := .inl (.inl upd_same)
  generalize upd F1 p2 (.tup [.ref p1]) = F2 at e2 t2 h3 h4 ⊢
  have e3 : Go [] F2 (upd F2 p3 (.tup [.ref p2, .int 0, .int 4, .int 0])) := Go.new h3
  have t3 : SqT K (upd F2 p3 (.tup [.ref p2, .int 0, .int 4, .int 0])) p3 [.ref p2, .int 0, .int 4, .int 0] := .inl (.inl upd_same)
  generalize upd F2 p3 (.tup [.ref p2, .int 0, .int 4, .int 0]) = F3 at e3 t3 h4 ⊢
  have e4 : Go [] F3 (upd F3 p4 (.tup [.ref p3])) := Go.new h4
  have t4 : SqT K (upd F3 p4 (.tup [.ref p3])) p4 [.ref p3] := .inl (.inl upd_same)
  generalize upd F3 p4 (.tup [.ref p3]) = F4 at e4 t4 ⊢
  have e34 := e3.trans e4
  have e24 := e2.trans e34
  have pv : PrV K F4 (.ref p4) prog3 := ⟨_, ⟨p4, rfl, t4⟩, .cons ⟨.ref p2, _, ⟨p3, rfl, e4.tup t3⟩, ⟨p2, rfl, e34.tup t2⟩, .cons ⟨p1, rfl, e24.tup t1⟩ .nil⟩ .nil⟩
  have D4 := D2.go (e1.trans e24) (by simp)
  refine ⟨rfl, x, dx, kn, mk, n, _, _, .ref p4, prog3, 1, rfl, D4, pv, .inr ⟨rfl, rfl, rfl⟩, fun H3 v3 g4 D3 => ?_⟩
  have gC : Go [x, kn, mk] H H3 := gB.trans ((e1.trans e24).lift.trans (g4.mono (by simp)))
  exact ⟨_, rfl, q _ x dx kn mk _ (fix gC) hx hkn0 hmk0 D3⟩
end

end SH

set_option Elab.async false
set_option linter.all false
set_option maxRecDepth 100000
set_option maxHeartbeats 4000000
namespace SH
open PySem PySem.Spec PyProof.Rows L2
/-! ### dict comprehensions -/
theorem dc_go {J : It} {n : Nat} {G : Hp → Prop} {Yx : Nat → V → Prop} {g : TG} {tt : TT} {tk tv : TE} {vs : List Nat} {σ : L2.St} {H1 : Hp} {Qd : Addr → Hp → Prop} (R : Nat → List (Key × V) → Hp → Prop)
    (w : Walk J n G (fun i H x H' => H' = H ∧ Yx i x)) (hn : n ≤ sizeLine) (hG : ∀ H, Go [] H1 H → G H)
    (h0 : ∀ H, Go [] H1 H → R 0 [] H) (stab : ∀ i acc D H H', H1 D = none → R i acc H → Go [D] H H' → R i acc H')
    (step : ∀ i x acc H, i < n → Yx i x → acc.length ≤ i → Go [] H1 H → R i acc H → ∀ (K1 : V → V → Hp → Prop) (K2 : Hp → Prop), (∀ k z H4, Go [] H H4 → R (i + 1) (putK acc k z) H4 → K1 (kV k) z H4) →
      g x (wipe σ vs) H fun σ2 H2 => wipe σ2 vs = wipe σ vs ∧ tt σ2 H2 fun b H3 => if b = true then tk σ2 H3 fun y H4 => tv σ2 H4 fun z H5 => K1 y z H5 else K2 H3)
    (fin : ∀ D acc H, H1 D = none → Go [] H1 H → H D = some (.dK acc) → R n acc H → Qd D H) :
    ∀ D, H1 D = none → ∃ W : Nat → Nat → Hp → Prop, (∃ m, W 0 m (upd H1 D (.dK []))) ∧ ∀ i m H, W i m H →
      (J.stop i H ∧ Qd D H) ∨ (J.go i H ∧ ∃ Nx : Hp → Prop, (∀ H', Nx H' → ∃ m', m' < m ∧ W (i + 1) m' H') ∧ ∀ x H', J.yld i H x H' → g x (wipe σ vs) H' fun σ2 H2 => wipe σ2 vs = wipe σ vs ∧ tt σ2 H2 fun b H3 =>
        if b = true then tk σ2 H3 fun y H4 => tv σ2 H4 fun z H5 => ∃ kvs k, y = kV k ∧ H5 D = some (.dK kvs) ∧ kvs.length < sizeLine ∧ Nx (upd H5 D (.dK (putK kvs k z))) else Nx H3) := by
  intro D hD
  refine ⟨fun i m H => m = n - i ∧ i ≤ n ∧ Go [] H1 H ∧ ∃ acc, H D = some (.dK acc) ∧ acc.length ≤ i ∧ R i acc H, ⟨n, by simp, Nat.zero_le _, Go.new hD, [], upd_same, Nat.le_refl _, h0 _ (Go.new hD)⟩, ?_⟩
  rintro i m H ⟨rfl, hi, g1, acc, ha, hl, r⟩
  by_cases hlt : i < n
  · refine .inr ⟨w.goes i H hlt (hG H g1), fun H' => Go [] H1 H' ∧ ∃ acc, H' D = some (.dK acc) ∧ acc.length ≤ i + 1 ∧ R (i + 1) acc H', fun H' p' => ⟨n - (i + 1), by omega, rfl, hlt, p'⟩, fun x H' y => ?_⟩
    obtain ⟨e, y2⟩ := w.yields i H x H' hlt (hG H g1) y
    subst e
    refine step i x acc H' hlt y2 hl g1 r (fun y z H5 => ∃ kvs k, y = kV k ∧ H5 D = some (.dK kvs) ∧ kvs.length < sizeLine ∧ (Go [] H1 (upd H5 D (.dK (putK kvs k z))) ∧ ∃ acc, upd H5 D (.dK (putK kvs k z)) D = some (.dK acc) ∧ acc.length ≤ i + 1 ∧ R (i + 1) acc (upd H5 D (.dK (putK kvs k z))))) _ ?_
    intro k z H4 g2 r2
    have ha4 := g2.at ha
    exact ⟨acc, k, rfl, ha4, by omega, (g1.trans g2).late hD, _, upd_same, Nat.le_trans (length_putK ..) (by omega), stab _ _ D _ _ hD r2 (Go.put List.mem_cons_self (by rw [ha4]; trivial))⟩
  · have e : i = n := by omega
    subst e
    exact .inl ⟨w.stops H (hG H g1), fin D acc H hD g1 ha r⟩
theorem Go.lock {H H' : Hp} {d : Addr} {u : HO} {od : Obj} (h : H d = some u) (hm : Mut (some u)) (g : Go [] (upd H d (.frz od u)) H') : Go [] H (upd H' d u) := Go.same fun a o ha => by
  by_cases e : a = d
  · subst e
    rw [upd_same, ← ha, h]
  · rw [upd_ne e]
    exact g.at (by rw [upd_ne e]; exact ha)
theorem Go.lock0 {H : Hp} {d : Addr} {u : HO} {od : Obj} (h : H d = some u) (hm : Mut (some u)) : Go [d] H (upd H d (.frz od u)) := Go.put List.mem_cons_self (by rw [h]; exact hm)
theorem nd_take {kvs : List (Key × V)} {i : Nat} {k : Key} {v : V} (h : (kvs.map (·.1)).Nodup) (hi : kvs[i]? = some (k, v)) : ¬ k ∈ (kvs.take i).map (·.1) ∧ (kvs.take (i + 1)).map (·.1) = (kvs.take i).map (·.1) ++ [k] := by
  have e : kvs.take (i + 1) = kvs.take i ++ [(k, v)] := by rw [List.take_add_one, hi] <;> rfl
  refine ⟨fun m => ?_, by rw [e, List.map_append] <;> rfl⟩
  have h2 : ((kvs.take (i + 1)).map (·.1)).Nodup := by
    rw [List.map_take]
    exact h.sublist (List.take_sublist _ _)
  rw [e, List.map_append] at h2
  exact (List.nodup_append.mp h2).2.2 k m k (by simp) rfl
/-! ### small ones -/
def sp_Blocks_is_fresh (K : PySem.W.Frag) : Sp := fun vs H Q _ => vs.length = 2 ∧ ∃ A n s b, vs = [.ref A.bl, .int b] ∧ BlkAt K A H n s ∧ Q (.bl (s.fresh b)) H
section
variable {P : Program} {w : World} {K : PySem.W.Frag} {mg : Str → Option Value} {base : Heap}
theorem ok_Blocks_is_fresh (T : Txt w K mg)  : C8.Met P w K mg base 1 (He.ga K "Blocks") "is_fresh" (sp_Blocks_is_fresh K) [] := by
  refine met_go T.f_Blocks_is_fresh T.k_Blocks T.me_Blocks_is_fresh sc_Blocks_is_fresh (fun _ _ _ _ _ _ us hl => match us, hl with | [_, _], _ => rfl) (fun _ _ _ _ h => h.1) fun cdv A outer s H vs Q E hr h => ?_
  have hu := hu_of hr
  refine ⟨_, (pss_one (ps_ret (pe_cmp (pc_din hu (pv 1) (pe_fldK K rfl (pv 0) rfl))))), ?_⟩
  obtain ⟨_, A, n, s, b, rfl, B, q⟩ := h
  obtain ⟨kvs, k1, k2⟩ := B.freshD
  refine ⟨_, rfl, _, rfl, _, _, _, _, _, rfl, B.ins, T.k_Blocks, T.na_Blocks_fresh, rfl, A.fr, _, rfl, DGet.k (k := Sum.inl b) k1, qB ?_ q⟩
  rw [k2.isSome]
  unfold frM
  cases s.fresh b <;> rfl
end
def hasB (s : St) (e b : Int) : Bool := match s.buf b with
  | some p => decide (p.1 = e)
  | none => false
def holdB (s : St) (e b : Int) : Bool := match s.kept b with
  | some p => decide (p.1 = e)
  | none => false
def fillB (s : St) (e b k : Int) : Bool := holdB s e b && (match s.kept b with
  | some p => decide (p.2 = some k)
  | none => false)
def sp_Blocks_has_buffer (K : PySem.W.Frag) : Sp := fun vs H Q _ => vs.length = 3 ∧ ∃ A n s e b, vs = [.ref A.bl, .int e, .int b] ∧ BlkAt K A H n s ∧ Q (.bl (hasB s e b)) H
section
variable {P : Program} {w : World} {K : PySem.W.Frag} {mg : Str → Option Value} {base : Heap}
theorem ok_Blocks_has_buffer (T : Txt w K mg)  : C8.Met P w K mg base 1 (He.ga K "Blocks") "_has_buffer" (sp_Blocks_has_buffer K) [] := by
  refine met_go T.f_Blocks_has_buffer T.k_Blocks T.me_Blocks_has_buffer sc_Blocks_has_buffer (fun _ _ _ _ _ _ us hl => match us, hl with | [_, _, _], _ => rfl) (fun _ _ _ _ h => h.1) fun cdv A outer s H vs Q E hr h => ?_
  have hu := hu_of hr
  refine ⟨_, (pss_one (ps_ret (pe_and (pe_cmp (pc_din hu (pv 2) (pe_fldK K rfl (pv 0) rfl))) (pe_one (pe_cmpR op_eq (pe_ix (show IxR _ (rIxT K) from ix_tup) (pe_dget hu (pe_fldK K rfl (pv 0) rfl) (pv 2) (fun _ _ => rfl)) pe_int (fun _ _ => rfl)) (pv 1) (nomark _)))))), ?_⟩
  obtain ⟨_, A, n, s, e, b, rfl, B, q⟩ := h
  obtain ⟨kvs, k1, k2⟩ := B.bufD
  refine ⟨_, rfl, _, rfl, _, _, _, _, _, rfl, B.ins, T.k_Blocks, T.na_Blocks_buffers, rfl, A.bu, _, rfl, DGet.k (k := Sum.inl b) k1, _, rfl, ?_⟩
  rw [k2.isSome]
  unfold hasB at q
  cases hb : s.buf b with
  | none =>
    rw [hb] at q
    exact q
  | some p =>
    rw [hb] at q
    obtain ⟨v, v1, u, ⟨t, rfl, ht⟩, _⟩ := k2.gets hb
    have dg := DGet.k (k := Sum.inl b) k1
    rw [v1] at dg
    refine ⟨_, rfl, _, _, _, _, _, rfl, B.ins, T.k_Blocks, T.na_Blocks_buffers, rfl, _, rfl, A.bu, _, rfl, dg, t, _, 0, _, rfl, rfl, ht, rfl, _, rfl, rfl, qB ?_ q⟩
    rw [dec_int]
    exact Bool.eq_iff_iff.mpr (by simp)
end
def sp_Blocks_holds (K : PySem.W.Frag) : Sp := fun vs H Q _ => vs.length = 3 ∧ ∃ A n s e b, vs = [.ref A.bl, .int e, .int b] ∧ BlkAt K A H n s ∧ Q (.bl (holdB s e b)) H
section
variable {P : Program} {w : World} {K : PySem.W.Frag} {mg : Str → Option Value} {base : Heap}
theorem ok_Blocks_holds (T : Txt w K mg)  : C8.Met P w K mg base 1 (He.ga K "Blocks") "_holds" (sp_Blocks_holds K) [] := by
  refine met_go T.f_Blocks_holds T.k_Blocks T.me_Blocks_holds sc_Blocks_holds (fun _ _ _ _ _ _ us hl => match us, hl with | [_, _, _], _ => rfl) (fun _ _ _ _ h => h.1) fun cdv A outer s H vs Q E hr h => ?_
  have hu := hu_of hr
  refine ⟨_, (pss_one (ps_ret (pe_and (pe_cmp (pc_din hu (pv 2) (pe_fldK K rfl (pv 0) rfl))) (pe_one (pe_cmpR op_eq (pe_ix (show IxR _ (rIxT K) from ix_tup) (pe_dget hu (pe_fldK K rfl (pv 0) rfl) (pv 2) (fun _ _ => rfl)) pe_int (fun _ _ => rfl)) (pv 1) (nomark _)))))), ?_⟩
  obtain ⟨_, A, n, s, e, b, rfl, B, q⟩ := h
  obtain ⟨kvs, k1, k2⟩ := B.keptD
  refine ⟨_, rfl, _, rfl, _, _, _, _, _, rfl, B.ins, T.k_Blocks, T.na_Blocks_kept, rfl, A.ke, _, rfl, DGet.k (k := Sum.inl b) k1, _, rfl, ?_⟩
  rw [k2.isSome]
  unfold holdB at q
  cases hb : s.kept b with
  | none =>
    rw [hb] at q
    exact q
  | some p =>
    rw [hb] at q
    obtain ⟨v, v1, t, rfl, ht⟩ := k2.gets hb
    have dg := DGet.k (k := Sum.inl b) k1
    rw [v1] at dg
    refine ⟨_, rfl, _, _, _, _, _, rfl, B.ins, T.k_Blocks, T.na_Blocks_kept, rfl, _, rfl, A.ke, _, rfl, dg, t, _, 0, _, rfl, rfl, ht, rfl, _, rfl, rfl, qB ?_ q⟩
    rw [dec_int]
    exact Bool.eq_iff_iff.mpr (by simp)
end
def sp_Blocks_is_filled (K : PySem.W.Frag) : Sp := fun vs H Q _ => vs.length = 4 ∧ ∃ A n s e b k, vs = [.ref A.bl, .int e, .int b, .int k] ∧ BlkAt K A H n s ∧ Q (.bl (fillB s e b k)) H
section
variable {P : Program} {w : World} {K : PySem.W.Frag} {mg : Str → Option Value} {base : Heap}
theorem ok_Blocks_is_filled (T : Txt w K mg) (c_Blocks_holds : C8.Met P w K mg base 1 (He.ga K "Blocks") "_holds" (sp_Blocks_holds K) []) : C8.Met P w K mg base 2 (He.ga K "Blocks") "_is_filled" (sp_Blocks_is_filled K) [] := by
  refine met_go T.f_Blocks_is_filled T.k_Blocks T.me_Blocks_is_filled sc_Blocks_is_filled (fun _ _ _ _ _ _ us hl => match us, hl with | [_, _, _, _], _ => rfl) (fun _ _ _ _ h => h.1) fun cdv A outer s H vs Q E hr h => ?_
  have hu := hu_of hr
  refine ⟨_, (pss_one (ps_ret (pe_and (C8.pe_mt c_Blocks_holds hr (by decide) (pv 0) (pa_cons (pv 1) (pa_cons (pv 2) pa_nil))) (pe_one (pe_cmpR op_eq (pe_ix (show IxR _ (rIxT K) from ix_tup) (pe_dget hu (pe_fldK K rfl (pv 0) rfl) (pv 2) (fun _ _ => rfl)) pe_int (fun _ _ => rfl)) (pv 3) (nomark _)))))), ?_⟩
  obtain ⟨_, A, n, s, e, b, k, rfl, B, q⟩ := h
  obtain ⟨kvs, k1, k2⟩ := B.keptD
  refine ⟨_, rfl, A.bl, _, _, rfl, B.ins, rfl, _, rfl, _, rfl, rfl, A, n, s, e, b, rfl, B, _, rfl, ?_⟩
  unfold fillB at q
  cases hh : holdB s e b with
  | false =>
    rw [hh] at q
    exact q
  | true =>
    rw [hh, Bool.true_and] at q
    unfold holdB at hh
    cases hb : s.kept b with
    | none => rw [hb] at hh; cases hh
    | some p =>
      rw [hb] at q
      obtain ⟨v, v1, t, rfl, ht⟩ := k2.gets hb
      have dg := DGet.k (k := Sum.inl b) k1
      rw [v1] at dg
      have sc : scal (oV p.2) (.int k) = true := by cases p.2 <;> rfl
      refine ⟨_, rfl, _, _, _, _, _, rfl, B.ins, T.k_Blocks, T.na_Blocks_kept, rfl, _, rfl, A.ke, _, rfl, dg, t, _, 1, _, rfl, rfl, ht, rfl, _, rfl, sc, qB ?_ q⟩
      obtain ⟨p1, p2⟩ := p
      exact Bool.eq_iff_iff.mpr (by cases p2 <;> simp [oV])
end
def sp_Blocks_reserved (K : PySem.W.Frag) : Sp := fun vs H Q _ => vs.length = 2 ∧ ∃ A n s e, vs = [.ref A.bl, .int e] ∧ BlkAt K A H n s ∧ Bas n s ∧
  ∀ p (ns : List Int) H', Go [] H H' → H p = none → H' p = some (.lst (ns.map V.int)) → ns.Nodup → (∀ b, b ∈ ns ↔ ∃ k, s.kept b = some (e, k)) → ns.length ≤ 64 → Q (.ref p) H'
section
variable {P : Program} {w : World} {K : PySem.W.Frag} {mg : Str → Option Value} {base : Heap}
theorem ok_Blocks_reserved (T : Txt w K mg)  : C8.Met P w K mg base 1 (He.ga K "Blocks") "reserved" (sp_Blocks_reserved K) [] := by
  refine met_go T.f_Blocks_reserved T.k_Blocks T.me_Blocks_reserved sc_Blocks_reserved (fun _ _ _ _ _ _ us hl => match us, hl with | [_, _], _ => rfl) (fun _ _ _ _ h => h.1) fun cdv A outer s H vs Q E hr h => ?_
  have hu := hu_of hr
  refine ⟨_, (pss_one (ps_ret (pe_callB cr_sortedI (by rfl) T.b_sorted (by decide +kernel) (pa_cons (pe_lock (pe_lc (own := [("block", 2)]) rfl sc_Blocks_reserved.nd (pi_keys (pe_fldK K rfl (pv 0) rfl)) (blkOk_by (own := [("block", 2)]) (N := n_Blocks_reserved) (sc := defScope s_Blocks_reserved) (by decide +kernel)) (fun _ _ _ _ _ => (pg_name (i := 2) sc_Blocks_reserved.nd rfl (by first | exact Or.inl rfl | exact Or.inr rfl))) (fun _ _ _ _ _ => pts_one (pt_cmpR op_eq (pe_ix (show IxR _ (rIxT K) from ix_tup) (pe_dget hu (pe_fldK K rfl (pv 0) rfl) (pv 2) (fun _ _ => rfl)) pe_int (fun _ _ => rfl)) (pv 1) (nomark _))) (fun _ _ _ _ _ => (pv 2)))) pa_nil)))), ?_⟩
  obtain ⟨_, A, n, s, e, rfl, B, hbas, q⟩ := h
  obtain ⟨kvs, k1, k2⟩ := B.keptD
  have hn0 := B.disk.n0
  have hkl : kvs.length ≤ 64 := k2.len (n := 64) fun b x hb => by
    obtain ⟨_, z1, z2, _⟩ := hbas.kept b x.1 x.2 hb
    omega
  refine ⟨A.ke, _, k1, trivial, fun od => ?_⟩
  have hBl : upd H A.ke (.frz od (.dK kvs)) A.bl = some (.ins (He.ga K "Blocks") A.dxb [("disk", .ref A.dk), ("shares", .ref A.sh), ("types", .ref A.ty), ("buffers", .ref A.bu), ("kept", .ref A.ke), ("fresh", .ref A.fr)]) := by
    rw [upd_ne (ne_of B.ins k1 (by simp))]
    exact B.ins
  have hke : upd H A.ke (.frz od (.dK kvs)) A.ke = some (.frz od (.dK kvs)) := upd_same
  have gl0 : Go [A.ke] H (upd H A.ke (.frz od (.dK kvs))) := Go.lock0 k1 trivial
  have gl := fun H' => @Go.lock H H' A.ke (.dK kvs) od k1 trivial
  have hfr : ∀ p, upd H A.ke (.frz od (.dK kvs)) p = none → H p = none := fun p hp => gl0.free hp
  generalize upd H A.ke (.frz od (.dK kvs)) = H1 at hBl hke gl0 gl hfr ⊢
  refine ⟨_, rfl, _, _, _, _, _, rfl, hBl, T.k_Blocks, T.na_Blocks_kept, rfl, A.ke, od, rfl, .inl ⟨kvs, hke, ?_⟩⟩
  refine lc_go (Z := []) (fun i acc _ => ∃ ns : List Int, acc = ns.map V.int ∧ ns.Nodup ∧ ∀ b, b ∈ ns ↔ ((Sum.inl b : Key) ∈ (kvs.take i).map (fun p : Key × V => p.1) ∧ holdB s e b = true)) wk_keys (le_sl (by omega)) no_z (fun H' g => g.at hke) (fun _ _ => ⟨[], rfl, List.nodup_nil, fun b => by simp⟩) (fun _ _ _ _ _ _ h _ => h) ?_ ?_
  · rintro i x acc H' hi ⟨k, v, hkv, rfl⟩ hl g ⟨ns, rfl, hnd, hmem⟩ K1 K2 kk1 kk2
    obtain ⟨b, x, rfl, hb, t, rfl, ht⟩ := k2.at hkv
    obtain ⟨hnt, htk⟩ := nd_take k2.nd hkv
    have hv : valV kvs (Sum.inl b) = some (V.ref t) := val_nodup k2.nd (Sum.inl b, V.ref t) (List.mem_of_getElem? hkv)
    have dg : DGet H' A.ke (kV (Sum.inl b)) (some (V.ref t)) := .inl ⟨kvs, Sum.inl b, .inr ⟨od, g.at hke⟩, rfl, hv.symm⟩
    have ht' : SqT K H' t [.int x.1, oV x.2] := g.tup (gl0.tup ht)
    have hh : holdB s e b = (x.1 == e) := by
      unfold holdB
      rw [hb]
      exact Bool.eq_iff_iff.mpr (by simp)
    refine ⟨rfl, _, rfl, _, _, _, _, _, rfl, g.at hBl, T.k_Blocks, T.na_Blocks_kept, rfl, _, rfl, A.ke, _, rfl, dg, t, _, 0, _, rfl, rfl, ht', rfl, _, rfl, rfl, _, rfl, ?_⟩
    rw [dec_int, ← hh]
    cases hc : holdB s e b with
    | true =>
      refine ⟨_, rfl, kk1 _ _ Go.refl ⟨ns ++ [b], by rw [List.map_append] <;> rfl, nodup_snoc hnd (fun m => hnt ((hmem b).mp m).1), fun b' => ?_⟩⟩
      rw [htk]
      simp only [List.mem_append, List.mem_singleton, hmem]
      constructor
      · rintro (⟨z1, z2⟩ | rfl)
        · exact ⟨.inl z1, z2⟩
        · exact ⟨.inr rfl, hc⟩
      · rintro ⟨z1 | z1, z2⟩
        · exact .inl ⟨z1, z2⟩
        · exact .inr (Sum.inl.inj z1)
    | false =>
      refine kk2 _ Go.refl ⟨ns, rfl, hnd, fun b' => ?_⟩
      rw [htk]
      simp only [List.mem_append, List.mem_singleton, hmem]
      constructor
      · rintro ⟨z1, z2⟩
        exact ⟨.inl z1, z2⟩
      · rintro ⟨z1 | z1, z2⟩
        · exact ⟨z1, z2⟩
        · rw [Sum.inl.inj z1, hc] at z2
          cases z2
  · rintro D acc H' hD g hacc hl ⟨ns, rfl, hnd, hmem⟩
    refine ⟨g.at hke, ?_⟩
    have g2 := gl H' g
    have nD : D ≠ A.ke := (ne_of_none hke hD).symm
    have hD2 : upd H' A.ke (.dK kvs) D = some (.lst (ns.map V.int)) := by rw [upd_ne nD]; exact hacc
    generalize upd H' A.ke (.dK kvs) = H2 at g2 hD2 ⊢
    refine ⟨D, ns, rfl, .inl (.inl hD2), fun ns' p hperm _ hp => ?_⟩
    refine q p ns' _ (g2.trans (Go.new hp)) (g2.free hp) upd_same (hperm.nodup_iff.mpr hnd) (fun b => ?_) (by rw [hperm.length_eq]; rw [List.length_map] at hl; omega)
    rw [hperm.mem_iff, hmem, List.take_length]
    constructor
    · rintro ⟨z1, z2⟩
      unfold holdB at z2
      cases hb : s.kept b with
      | none => rw [hb] at z2; cases z2
      | some p =>
        rw [hb] at z2
        obtain ⟨f, k⟩ := p
        have : f = e := of_decide_eq_true z2
        exact ⟨k, by rw [this]⟩
    · rintro ⟨k, hk⟩
      refine ⟨?_, by unfold holdB; rw [hk]; exact decide_eq_true rfl⟩
      obtain ⟨v, hv⟩ := k2.cpl b _ hk
      exact valV_in hv
end

end SH

set_option Elab.async false
set_option linter.all false
set_option maxRecDepth 100000
set_option maxHeartbeats 4000000
namespace SH
open PySem PySem.Spec PyProof.Rows L2
theorem gName_i {i : Nat} {v : V} {σ : L2.St} {H : Hp} {Q : L2.St → Hp → Prop} (h : Q (σ.set i (some v)) H) : gName i v σ H Q := h
theorem seq_while {c : TT} {tb u : TS} {D : Ends} {σ : L2.St} {H : Hp} (h : tWhile c tb { D with nx := u D } σ H) : tSeq (tWhile c tb) u D σ H := h
/-! ### forests -/
def RtV (K : PySem.W.Frag) (H : Hp) (v : V) (p : Int × Option Int) : Prop := TupIs K H v [.int p.1, oV p.2]
def TdV (K : PySem.W.Frag) (H : Hp) (v : V) (p : Int × Option Int × Option Int) : Prop := TupIs K H v [.int p.1, oV p.2.1, oV p.2.2]
theorem TdV.go {Z : List Addr} {K : PySem.W.Frag} {H H' : Hp} {v : V} {p : Int × Option Int × Option Int} (h : TdV K H v p) (g : Go Z H H') : TdV K H' v p := TupIs.go h g
theorem RtV.go {Z : List Addr} {K : PySem.W.Frag} {H H' : Hp} {v : V} {p : Int × Option Int} (h : RtV K H v p) (g : Go Z H H') : RtV K H' v p := TupIs.go h g
/-- what comes of a walk from the roots R with the words W -/
def FoR (K : PySem.W.Frag) (H H' : Hp) (v : V) (n : Int) (R : Rt) (W : Int → Wd) : Prop :=
  (∃ p kvs G, v = .ref p ∧ H p = none ∧ H' p = some (.dK kvs) ∧ MapR kvs G (FoV K H') ∧ IsF n gdF R W G ∧ ∀ b x, G b = some x → 0 ≤ b ∧ b < n) ∨ (v = .non ∧ ¬ ∃ G, IsF n gdF R W G)
def OwT (K : PySem.W.Frag) (H : Hp) (v : V) (cs : List (Int × Int)) : Prop := ∃ a ps, v = .ref a ∧ SqT K H a (ps.map V.ref) ∧ Paired (fun p c => SqT K H p [.int c.1, .int c.2]) ps cs
theorem OwV.weak {K : PySem.W.Frag} {H : Hp} {v : V} {cs : List (Int × Int)} (h : OwV K H v cs) : OwT K H v cs := by
  obtain ⟨a, o, ps, e, h1, h2, h3⟩ := h
  exact ⟨a, ps, e, .inl (.inr ⟨o, h1⟩), h3⟩
theorem bi_rng {n : Int} {R : Rt} {W : Int → Wd} {found : Mp} {b : Int} {o k : Option Int} (hR : ∀ b k, R b = some k → (0 ≤ b ∧ b < n) ∧ ∀ k', k = some k' → GK k' ∨ k' = 1) (h : Src n gdF R W found b o k) : (0 ≤ b ∧ b < n) ∧ ∀ k', k = some k' → GK k' ∨ k' = 1 := by
  rcases h with ⟨_, h⟩ | ⟨p, op, kp, cs, k', e1, e2, e3, e4, e5⟩
  · exact hR _ _ h
  · obtain ⟨z1, z2, z3⟩ := (own'_fnd e3).2 _ e4
    refine ⟨⟨by have : (4 : Int) ≤ b := z1; omega, z2⟩, fun k2 h2 => ?_⟩
    rw [e5] at h2
    cases h2
    exact .inl z3
theorem Go.drop1 {H H1 H2 : Hp} {p : Addr} (g : Go [] H H1) (g2 : Go [p] H1 H2) (h : H p = none) : Go [] H H2 := Go.same fun a o ha => g2.fr a o (g.at ha) (by simpa using ne_of_none ha h)
theorem next_i {D : Ends} {σ : L2.St} {H : Hp} (h : D.nx σ H) : tNext D σ H := h
theorem forest_rest {K : PySem.W.Frag} {a0 a1 a2 a3 td : Addr} {b : Int} {x6 x7 x9 x10 : Option V} {v8 : V} {cs : List (Int × Int)} {tl : List V} {H : Hp} {D : Ends} (ho : OwT K H v8 cs) (htd : H td = some (.lst tl)) (hl : tl.length + cs.length ≤ 10000) (hcl : cs.length ≤ 64)
    (hn : ∀ x9' x10' H6 zs, Go [td] H H6 → H6 td = some (.lst (tl ++ zs)) → Paired (TdV K H6) zs (cs.map fun p => (p.1, some b, some p.2)) → D.nx [some (.ref a0), some (.ref a1), some (.ref a2), some (.ref a3), some (.ref td), some (.int b), x6, x7, some v8, x9', x10'] H6) :
    tSeq (tIfS (tTest (tOp (fun x y H Q => y = V.non ∧ Q (V.bl (decide (x = V.non))) H) (tVar 8) (tC V.non))) (tRet (tC V.non)) tNext)
      (tDrop (tBM K "list" rExtend (tVar 4) (tCons (tLc (iTup K (tVar 8)) (gTup K 2 (gCons (gName 9) (gCons (gName 10) gNil))) tYes (tTup (tCons (tVar 9) (tCons (tVar 5) (tCons (tVar 10) tNil)))) (List.map (fun x => x.2) [(("child" : Str), 9), (("child_kind" : Str), 10)])) tNil)))
      D [some (.ref a0), some (.ref a1), some (.ref a2), some (.ref a3), some (.ref td), some (.int b), x6, x7, some v8, x9, x10] H := by
  obtain ⟨a, ps, rfl, ha, hps⟩ := ho
  have hpl := hps.length
  refine ⟨_, rfl, rfl, false, congrArg V.bl (decide_eq_false (by simp)), ?_⟩
  refine ⟨_, rfl, .inl ⟨rfl, _, .inl (.inl htd)⟩, _, rfl, a, rfl, ⟨_, ha⟩, ?_⟩
  refine lc_go (Z := []) (fun i acc H' => Paired (TdV K H') acc ((cs.take i).map fun p => (p.1, some b, some p.2))) wk_tup (le_sl (by rw [List.length_map]; omega)) no_z (fun H' g => g.tup ha) (fun _ _ => .nil) (fun i acc D H1 H2 _ h g => Paired.mapP h fun _ _ z => z.go g) ?_ ?_
  · intro i x acc H' hi hx hl g hR K1 K2 k1 k2
    rw [List.getElem?_map] at hx
    cases hpi : ps[i]? with
    | none => rw [hpi] at hx; cases hx
    | some p =>
      rw [hpi] at hx
      cases hx
      obtain ⟨c, hc, hpc⟩ := paired_at hps hpi
      refine ⟨p, _, rfl, g.tup hpc, rfl, _, _, rfl, _, _, rfl, rfl, ?_⟩
      refine ⟨rfl, _, rfl, _, rfl, _, rfl, (by decide : 3 ≤ sizeLine), fun q hq => k1 _ _ (Go.new hq) ?_⟩
      have e1 : cs.take (i + 1) = cs.take i ++ [c] := by rw [List.take_add_one, hc] <;> rfl
      rw [e1, List.map_append]
      exact paired_app (Paired.mapP hR fun _ _ z => z.go (Z := []) (Go.new hq)) (.cons ⟨q, rfl, .inl (.inl upd_same)⟩ .nil)
  · intro L acc H' hD g hacc hl2 hR
    rw [List.length_map, hpl, List.take_length] at hR
    have hd' := g.at htd
    have hal : acc.length = cs.length := by rw [hR.length, List.length_map]
    have ne : L ≠ td := (ne_of_none htd hD).symm
    refine ⟨td, L, tl, acc, rfl, rfl, hd', hacc, by have : 10000 ≤ sizeLine := by decide
                                                    omega, ?_⟩
    have g2 : Go [td] H' (upd H' td (.lst (tl ++ acc))) := Go.put List.mem_cons_self (by rw [hd']; trivial)
    exact hn _ _ _ acc (g.lift.trans g2) upd_same (Paired.mapP hR fun _ _ z => z.go g2)
def sp_Blocks_forest (K : PySem.W.Frag) : Sp := fun vs H Q _ => vs.length = 3 ∧ ∃ A n s rp tp rs rvs tkvs, ∃ (tf : Int → Option Wd) (R : Rt) (W : Int → Wd), vs = [.ref A.bl, .ref rp, .ref tp] ∧ BlkAt K A H n s ∧
  H rp = some (.lst rvs) ∧ Paired (RtV K H) rvs rs ∧ H tp = some (.dK tkvs) ∧ MapR tkvs tf (fun w v => WdV K H v w) ∧ (rs.map (·.1)).Nodup ∧ rs.length ≤ 65 ∧ (∀ b k, R b = some k ↔ (b, k) ∈ rs) ∧
  (∀ b k, R b = some k → (0 ≤ b ∧ b < n) ∧ ∀ k', k = some k' → GK k' ∨ k' = 1) ∧ (∀ b, 0 ≤ b → b < n → W b = (tf b).getD (s.held b) ∧ (W b).length = 8) ∧
  ∀ v H', Go [] H H' → FoR K H H' v n R W → Q v H'
section
variable {P : Program} {w : World} {K : PySem.W.Frag} {mg : Str → Option Value} {base : Heap}
theorem ok_Blocks_forest (T : Txt w K mg) (c_Disk_words : C8.Met P w K mg base 1 (He.ga K "Disk") "words" (sp_Disk_words K) []) (c_Types_owned : C8.Met P w K mg base 3 (He.ga K "Types") "owned" (sp_Types_owned K) []) : C8.Met P w K mg base 4 (He.ga K "Blocks") "forest" (sp_Blocks_forest K) [] := by
  refine met_go T.f_Blocks_forest T.k_Blocks T.me_Blocks_forest sc_Blocks_forest (fun _ _ _ _ _ _ us hl => match us, hl with | [_, _, _], _ => rfl) (fun _ _ _ _ h => h.1) fun cdv A outer s H vs Q E hr h => ?_
  have hu := hu_of hr
  refine ⟨_, (pss_cons (ps_set (i := 3) sc_Blocks_forest.nd rfl (by first | exact Or.inl rfl | exact Or.inr rfl) pe_dnewK)
    (pss_cons (ps_setLc (i := 4) (own := [("block", 5), ("kind", 7)]) rfl sc_Blocks_forest.nd rfl rfl (sw_true rfl rfl rfl (by decide +kernel)) (pi_list (pv 1)) (blkOk_by (own := [("block", 5), ("kind", 7)]) (N := n_Blocks_forest) (sc := defScope s_Blocks_forest) (by decide +kernel)) (fun _ _ _ _ _ => (pg_tupK K (n := 2) rfl rfl (pgs_cons (pg_name (i := 5) sc_Blocks_forest.nd rfl (by first | exact Or.inl rfl | exact Or.inr rfl)) (pgs_cons (pg_name (i := 7) sc_Blocks_forest.nd rfl (by first | exact Or.inl rfl | exact Or.inr rfl)) pgs_nil)))) (fun _ _ _ _ _ => pts_nil) (fun _ _ _ _ _ => (pe_tup (pa_cons (pv 5) (pa_cons pe_non (pa_cons (pv 7) pa_nil))))))
    (pss_cons (ps_while PassesOwn.never (pt_truth (pv 4) (by intro _; rfl)) (pss_cons (ps_asg (pe_bm PySem.F.plainAttrs_list PySem.F.slot_list_pop PySem.F.type_list_pop mt_popAt (pv 4) (pa_cons pe_int pa_nil)) (pg_tupK K (n := 3) rfl rfl (pgs_cons (pg_name (i := 5) sc_Blocks_forest.nd rfl (by first | exact Or.inl rfl | exact Or.inr rfl)) (pgs_cons (pg_name (i := 6) sc_Blocks_forest.nd rfl (by first | exact Or.inl rfl | exact Or.inr rfl)) (pgs_cons (pg_name (i := 7) sc_Blocks_forest.nd rfl (by first | exact Or.inl rfl | exact Or.inr rfl)) pgs_nil)))))
    (pss_cons (ps_if (pt_cmp (pc_din hu (pv 5) (pv 3))) (pss_one (ps_ret pe_non)) pss_nil)
    (pss_cons (ps_dput hu (pv 3) (pv 5) (pe_tup (pa_cons (pv 6) (pa_cons (pv 7) pa_nil))) rfl)
    (pss_cons (ps_set (i := 8) sc_Blocks_forest.nd rfl (by first | exact Or.inl rfl | exact Or.inr rfl) (pe_tup pa_nil))
    (pss_cons (ps_if (pt_cmpR op_notN (pv 7) pe_non (nomark _)) (pss_one (ps_set (i := 8) sc_Blocks_forest.nd rfl (by first | exact Or.inl rfl | exact Or.inr rfl) (C8.pe_mt c_Types_owned hr (by decide) (pe_fldK K rfl (pv 0) rfl) (pa_cons (pv 7) (pa_cons (pe_dget2 hu (pv 2) (pv 5) (C8.pe_mt c_Disk_words hr (by decide) (pe_fldK K rfl (pv 0) rfl) (pa_cons (pv 5) pa_nil)) ⟨rfl, rfl, rfl, rfl⟩) pa_nil))))) pss_nil)
    (pss_cons (ps_if (pt_cmpR op_isN (pv 8) pe_non (nomark _)) (pss_one (ps_ret pe_non)) pss_nil)
    (pss_one (ps_expr (pe_bm PySem.F.plainAttrs_list PySem.F.slot_list_extend PySem.F.type_list_extend mt_extend (pv 4) (pa_cons (pe_lc (own := [("child", 9), ("child_kind", 10)]) rfl sc_Blocks_forest.nd (pi_tup (pv 8)) (blkOk_by (own := [("child", 9), ("child_kind", 10)]) (N := n_Blocks_forest) (sc := defScope s_Blocks_forest) (by decide +kernel)) (fun _ _ _ _ _ => (pg_tupK K (n := 2) rfl rfl (pgs_cons (pg_name (i := 9) sc_Blocks_forest.nd rfl (by first | exact Or.inl rfl | exact Or.inr rfl)) (pgs_cons (pg_name (i := 10) sc_Blocks_forest.nd rfl (by first | exact Or.inl rfl | exact Or.inr rfl)) pgs_nil)))) (fun _ _ _ _ _ => pts_nil) (fun _ _ _ _ _ => (pe_tup (pa_cons (pv 9) (pa_cons (pv 5) (pa_cons (pv 10) pa_nil)))))) pa_nil)))))))))))
    (pss_one (ps_ret (pv 3)))))), ?_⟩
  obtain ⟨_, A, n, s, rp, tp, rs, rvs, tkvs, tf, R, W, rfl, B, hrp, hrv, htp, htm, hnd, hrl, hR, hrng, hW, q⟩ := h
  have hn0 := B.disk.n0
  refine fun fd hfd => ?_
  have g1 : Go [] H (upd H fd (.dK [])) := Go.new hfd
  have hf1 : upd H fd (.dK []) fd = some (.dK []) := upd_same
  generalize upd H fd (.dK []) = H1 at g1 hf1 ⊢
  refine ⟨_, rfl, rp, rfl, ⟨_, .inl (.inl (g1.at hrp))⟩, ?_⟩
  have hvl := hrv.length
  refine lc_go (Z := []) (fun i acc H' => Paired (TdV K H') acc ((rs.take i).map fun p => (p.1, none, p.2))) wk_list (le_sl (by omega)) no_z (fun H' g => .inl (.inl (g.at (g1.at hrp)))) (fun _ _ => .nil) (fun i acc D H1 H2 _ h g => Paired.mapP h fun _ _ z => z.go g) ?_ ?_
  · intro i x acc H' hi hx hl g hR K1 K2 k1 k2
    obtain ⟨c, hc, a, rfl, ha⟩ := paired_at hrv hx
    refine ⟨a, _, rfl, g.tup (g1.tup ha), rfl, _, _, rfl, _, _, rfl, rfl, ?_⟩
    refine ⟨rfl, _, rfl, _, rfl, (by decide : 3 ≤ sizeLine), fun q hq => k1 _ _ (Go.new hq) ?_⟩
    have e1 : rs.take (i + 1) = rs.take i ++ [c] := by rw [List.take_add_one, hc] <;> rfl
    rw [e1, List.map_append]
    exact paired_app (Paired.mapP hR fun _ _ z => z.go (Z := []) (Go.new hq)) (.cons ⟨q, rfl, .inl (.inl upd_same)⟩ .nil)
  intro td acc H2 htd g2 hacc hl2 hR2
  rw [hvl, List.take_length] at hR2
  have hf2 := g2.at hf1
  have hd0 : H td = none := g1.free htd
  have hf0 : H fd = none := hfd
  have nft : fd ≠ td := ne_of_none hf1 htd
  refine gName_i ?_
  dsimp only
  refine seq_while ?_
  refine while_by (fun σ H' => ∃ x5 x6 x7 x8 x9 x10 found todo tvs fkvs, σ = [some (.ref A.bl), some (.ref rp), some (.ref tp), some (.ref fd), some (.ref td), x5, x6, x7, x8, x9, x10] ∧ Go [] H H' ∧ H' td = some (.lst tvs) ∧ Paired (TdV K H') tvs todo ∧
      H' fd = some (.dK fkvs) ∧ MapR fkvs found (FoV K H') ∧ BI n gdF R W found todo ∧ todo.length ≤ 65 + 64 * fkvs.length)
    (fun σ H' => match H' fd with | some (.dK k) => 65 - k.length | _ => 0) ?_ ?_ ?_
  · exact ⟨_, _, _, _, _, _, e0, _, acc, [], rfl, g1.trans g2, hacc, hR2, hf2, MapR.nil, BI.init hnd hR, by rw [List.length_map]; simp; omega⟩
  · rintro σ H3 ⟨x5, x6, x7, x8, x9, x10, found, todo, tvs, fkvs, rfl, g3, ht3, hT3, hf3, hF3, hB3, hL3⟩
    have hfl : fkvs.length ≤ 64 := hF3.len (n := 64) fun b x hb => by
      obtain ⟨o, k⟩ := x
      have := (bi_rng hrng (hB3.f1 b o k hb)).1
      omega
    cases hT3 with
    | nil =>
      refine ⟨_, rfl, false, .inl ⟨[], .inl (.inl ht3), rfl⟩, ?_⟩
      refine ⟨_, rfl, q _ _ g3 (.inl ⟨fd, fkvs, found, rfl, hf0, hf3, hF3, BI.done hB3, fun b x hb => ?_⟩)⟩
      obtain ⟨o, k⟩ := x
      exact (bi_rng hrng (hB3.f1 b o k hb)).1
    | @cons v tv tvs' todo' hv hT4 =>
      obtain ⟨b, o, k⟩ := tv
      obtain ⟨a, rfl, ha⟩ := hv
      obtain ⟨hbr, hkr⟩ := bi_rng hrng (hB3.t1 b o k List.mem_cons_self)
      have hTl := hT4.length
      refine ⟨_, rfl, true, .inl ⟨_, .inl (.inl ht3), rfl⟩, ?_⟩
      have sq0 : seqIndex? 0 (V.ref a :: tvs').length = some 0 := (ixN_seq (by unfold ixN; rw [if_pos (by omega), if_pos (by rw [List.length_cons]; omega)]; rfl)).1
      refine ⟨_, rfl, .inl ⟨rfl, _, .inl (.inl ht3)⟩, td, _, 0, 0, _, rfl, rfl, ht3, by omega, by omega, sq0, rfl, ?_⟩
      have g4' : Go [td] H3 (upd H3 td (.lst ((V.ref a :: tvs').eraseIdx 0))) := Go.put List.mem_cons_self (by rw [ht3]; trivial)
      have g4 : Go [] H (upd H3 td (.lst ((V.ref a :: tvs').eraseIdx 0))) := g3.late hd0
      have ht4 : upd H3 td (.lst ((V.ref a :: tvs').eraseIdx 0)) td = some (.lst tvs') := upd_same
      have hf4 : upd H3 td (.lst ((V.ref a :: tvs').eraseIdx 0)) fd = some (.dK fkvs) := by rw [upd_ne nft]; exact hf3
      generalize upd H3 td (.lst ((V.ref a :: tvs').eraseIdx 0)) = H4 at g4' g4 ht4 hf4 ⊢
      refine ⟨a, _, rfl, g4'.tup ha, rfl, _, _, rfl, _, _, rfl, _, _, rfl, rfl, ?_⟩
      refine ⟨_, rfl, _, rfl, fd, _, rfl, DGet.k (k := Sum.inl b) hf4, _, rfl, ?_⟩
      rw [hF3.isSome]
      cases hfb : found b with
      | some v => exact q _ _ g4 (.inr ⟨rfl, BI.fail1 hB3 hfb⟩)
      | none =>
      refine ⟨_, rfl, _, rfl, (by decide : 2 ≤ sizeLine), fun p hp => ?_⟩
      have g5 : Go [] H4 (upd H4 p (.tup [oV o, oV k])) := Go.new hp
      have hp5 : upd H4 p (.tup [oV o, oV k]) p = some (.tup [oV o, oV k]) := upd_same
      have ht5 := g5.at ht4
      have hf5 := g5.at hf4
      generalize upd H4 p (.tup [oV o, oV k]) = H5 at g5 hp5 ht5 hf5 ⊢
      refine ⟨_, rfl, _, rfl, fd, _, rfl, DPut.k (k := Sum.inl b) hf5 (lt_sl (by omega)), ?_⟩
      have g6' : Go [fd] H5 (upd H5 fd (.dK (putK fkvs (.inl b) (.ref p)))) := Go.put List.mem_cons_self (by rw [hf5]; trivial)
      have g6 : Go [] H (upd H5 fd (.dK (putK fkvs (.inl b) (.ref p)))) := (g4.trans g5).late hf0
      have hf6 : upd H5 fd (.dK (putK fkvs (.inl b) (.ref p))) fd = some (.dK (putK fkvs (.inl b) (.ref p))) := upd_same
      have ht6 : upd H5 fd (.dK (putK fkvs (.inl b) (.ref p))) td = some (.lst tvs') := by rw [upd_ne nft.symm]; exact ht5
      have hT6 : Paired (TdV K (upd H5 fd (.dK (putK fkvs (.inl b) (.ref p))))) tvs' todo' := Paired.mapP hT4 fun _ _ z => ((z.go g4').go g5).go g6'
      have hF6 : MapR (putK fkvs (.inl b) (.ref p)) (put found b (o, k)) (FoV K (upd H5 fd (.dK (putK fkvs (.inl b) (.ref p))))) :=
        ((hF3.mono fun _ _ _ _ z => ((z.go g4').go g5).go g6').put (b := b) (x := (o, k)) (v := .ref p) ⟨p, rfl, g6'.tk _ _ hp5⟩).congr fun _ => rfl
      have hl6 : (putK fkvs (.inl b) (V.ref p)).length = fkvs.length + 1 := by
        rw [putK_new _ (hF3.getn hfb), List.length_append] <;> rfl
      generalize upd H5 fd (.dK (putK fkvs (.inl b) (.ref p))) = H6 at g6 hf6 ht6 hT6 hF6 ⊢
      generalize putK fkvs (.inl b) (V.ref p) = fkvs' at hf6 hF6 hl6
      have fin : ∀ (cs : List (Int × Int)) (y6 y7 y8 y9 y10 : Option V) (zs : List V) (H8 : Hp), own' n gdF k (W b) = some cs → cs.length ≤ 64 → Go [td] H6 H8 → H8 td = some (.lst (tvs' ++ zs)) → Paired (TdV K H8) zs (cs.map fun p => (p.1, some b, some p.2)) →
          ((∃ x5 x6 x7 x8 x9 x10 found todo tvs fkvs, [some (V.ref A.bl), some (V.ref rp), some (V.ref tp), some (V.ref fd), some (V.ref td), some (V.int b), y6, y7, y8, y9, y10] = [some (.ref A.bl), some (.ref rp), some (.ref tp), some (.ref fd), some (.ref td), x5, x6, x7, x8, x9, x10] ∧ Go [] H H8 ∧ H8 td = some (.lst tvs) ∧ Paired (TdV K H8) tvs todo ∧
            H8 fd = some (.dK fkvs) ∧ MapR fkvs found (FoV K H8) ∧ BI n gdF R W found todo ∧ todo.length ≤ 65 + 64 * fkvs.length) ∧ (match H8 fd with | some (.dK k) => 65 - k.length | _ => 0) < (match H3 fd with | some (.dK k) => 65 - k.length | _ => 0)) := by
        intro cs y6 y7 y8 y9 y10 zs H8 hcs hcl g8 ht8 hz
        have hf8 : H8 fd = some (.dK fkvs') := g8.fr _ _ hf6 (by simpa using nft)
        refine ⟨⟨some (V.int b), y6, y7, y8, y9, y10, put found b (o, k), todo' ++ cs.map fun p => (p.1, some b, some p.2), tvs' ++ zs, fkvs', rfl, g6.drop1 g8 hd0, ht8, paired_app (Paired.mapP hT6 fun _ _ z => z.go g8) hz, hf8, hF6.mono fun _ _ _ _ z => z.go g8, BI.step hB3 hfb hcs, ?_⟩, ?_⟩
        · rw [List.length_append, List.length_map, hl6]
          rw [List.length_cons] at hL3
          omega
        · rw [hf8, hf3]
          show 65 - fkvs'.length < 65 - fkvs.length
          omega
      have hLt : todo'.length ≤ 5000 := by
        rw [List.length_cons] at hL3
        omega
      refine ⟨(by decide : 0 ≤ sizeLine), fun p2 hp2 => ?_⟩
      have g7 : Go [] H6 (upd H6 p2 (.tup [])) := Go.new hp2
      have h72 : SqT K (upd H6 p2 (.tup [])) p2 [] := .inl (.inl upd_same)
      generalize upd H6 p2 (.tup []) = H7 at g7 h72 ⊢
      refine ⟨_, rfl, rfl, _, rfl, ?_⟩
      cases k with
      | none =>
        refine iteF ?_
        refine next_i ?_
        dsimp only
        refine forest_rest (cs := []) ⟨p2, [], rfl, h72, .nil⟩ (g7.at ht6) (by simp; omega) (by simp) fun x9' x10' H8 zs g8 ht8 hz => ?_
        exact fin [] _ _ _ _ _ zs H8 rfl (by simp) (g7.lift.trans g8) ht8 hz
      | some k =>
        refine iteT ?_
        have B7 := B.go (g6.trans g7)
        obtain ⟨ms, ty7⟩ := B7.types
        refine ⟨_, rfl, _, _, _, _, _, rfl, B7.ins, T.k_Blocks, T.na_Blocks_types, rfl, A.ty, _, _, rfl, ty7.ins, rfl, _, rfl, _, rfl, tp, rfl, .inl ⟨_, .inl ((g6.trans g7).at htp)⟩, _, rfl, ?_⟩
        refine ⟨_, rfl, _, _, _, _, _, rfl, B7.ins, T.k_Blocks, T.na_Blocks_disk, rfl, A.dk, _, _, rfl, B7.disk.ins, rfl, _, rfl, rfl, A.dk, A.dxd, A.he, A.wa, n, s.held, s.queue, b, rfl, B7.disk, hbr, fun v hv => ?_⟩
        refine ⟨_, DGet.k (k := Sum.inl b) ((g6.trans g7).at htp), ?_⟩
        obtain ⟨eW, lW⟩ := hW b hbr.1 hbr.2
        have hwv : WdV K H7 ((valV tkvs (Sum.inl b)).getD v) (W b) := by
          rw [eW]
          cases htb : tf b with
          | none => rw [htm.getn htb]; exact hv
          | some w =>
            obtain ⟨u, hu1, hu2⟩ := htm.gets htb
            rw [hu1]
            exact hu2.go (g6.trans g7)
        refine ⟨rfl, A.ty, A.dxt, A.kn, A.mks, n, ms, k, _, W b, rfl, ty7, hkr k rfl, hwv, lW, hn0.2, fun H8 v8 g8 hr8 => ?_⟩
        cases ho : own n gdF k (W b) with
        | none =>
          rw [ho] at hr8
          have e8 : v8 = .non := hr8
          subst e8
          exact ⟨_, rfl, rfl, true, rfl, q _ _ (g6.trans (g7.trans g8)) (.inr ⟨rfl, BI.fail2 hB3 ho⟩)⟩
        | some cs =>
          rw [ho] at hr8
          have hcl := Fnd.len (own_fnd ho) hn0.2
          refine gName_i ?_
          dsimp only
          refine forest_rest (cs := cs) (OwV.weak hr8) (g8.at (g7.at ht6)) (by omega) hcl fun x9' x10' H9 zs g9 ht9 hz => ?_
          exact fin cs _ _ _ _ _ zs H9 ho hcl (g7.lift.trans (g8.lift.trans g9)) ht9 hz
  · intro σ H Q Q' hq h
    obtain ⟨v, e, k, t, z⟩ := h
    exact ⟨v, e, k, t, hq _ _ z⟩
end

end SH

set_option Elab.async false
set_option linter.all false
set_option maxRecDepth 100000
set_option maxHeartbeats 4000000
namespace SH
open PySem PySem.Spec PyProof.Rows L2
theorem r1_rng {n e : Int} (hn : 24 ≤ n) (he : Env e) : ∀ b k, R1 e b = some k → (0 ≤ b ∧ b < n) ∧ ∀ k', k = some k' → GK k' ∨ k' = 1 := fun b k h => by
  obtain ⟨e1, e2⟩ := R1_iff.mp h
  have h1 := he.1
  have h2 := he.2
  refine ⟨by omega, fun k' q => ?_⟩
  rw [e2] at q
  exact .inr (Option.some.inj q).symm
def sp_Blocks_lasting_forest (K : PySem.W.Frag) : Sp := fun vs H Q _ => vs.length = 2 ∧ ∃ A n s e, vs = [.ref A.bl, .int e] ∧ BlkAt K A H n s ∧ Bas n s ∧ Env e ∧ ∀ v H', Go [] H H' → FoR K H H' v n (R1 e) s.held → Q v H'
section
variable {P : Program} {w : World} {K : PySem.W.Frag} {mg : Str → Option Value} {base : Heap}
theorem ok_Blocks_lasting_forest (T : Txt w K mg) (c_Blocks_forest : C8.Met P w K mg base 4 (He.ga K "Blocks") "forest" (sp_Blocks_forest K) []) : C8.Met P w K mg base 5 (He.ga K "Blocks") "lasting_forest" (sp_Blocks_lasting_forest K) [] := by
  refine met_go T.f_Blocks_lasting_forest T.k_Blocks T.me_Blocks_lasting_forest sc_Blocks_lasting_forest (fun _ _ _ _ _ _ us hl => match us, hl with | [_, _], _ => rfl) (fun _ _ _ _ h => h.1) fun cdv A outer s H vs Q E hr h => ?_
  refine ⟨_, (pss_one (ps_ret (C8.pe_mt c_Blocks_forest hr (by decide) (pv 0) (pa_cons (pe_lst (pa_cons (pe_tup (pa_cons (pv 1) (pa_cons (C8.pe_gc (by rfl) T.g_ROOT) pa_nil))) pa_nil)) (pa_cons pe_dnewK pa_nil))))), ?_⟩
  obtain ⟨_, A, n, s, e, rfl, B, hbas, he, q⟩ := h
  have hn0 := B.disk.n0
  refine ⟨_, rfl, A.bl, _, _, rfl, B.ins, rfl, _, rfl, (by decide : 2 ≤ sizeLine), fun p hp => ⟨(by decide : 1 ≤ sizeLine), fun rl hrl => fun td htd => ?_⟩⟩
  have g1 : Go [] H (upd H p (.tup [.int e, .int 1])) := Go.new hp
  have hp1 : SqT K (upd H p (.tup [.int e, .int 1])) p [.int e, .int 1] := .inl (.inl upd_same)
  generalize upd H p (.tup [.int e, .int 1]) = H1 at g1 hp1 hrl htd ⊢
  have g2 : Go [] H1 (upd H1 rl (.lst [.ref p])) := Go.new hrl
  have hr2 : upd H1 rl (.lst [.ref p]) rl = some (.lst [.ref p]) := upd_same
  generalize upd H1 rl (.lst [.ref p]) = H2 at g2 hr2 htd ⊢
  have g3 : Go [] H2 (upd H2 td (.dK [])) := Go.new htd
  have gg := g1.trans (g2.trans g3)
  refine ⟨rfl, A, n, s, rl, td, [(e, some 1)], [.ref p], [], fun _ => none, R1 e, s.held, rfl, B.go gg, g3.at hr2, .cons ⟨p, rfl, g3.tup (g2.tup hp1)⟩ .nil, upd_same, MapR.nil, by simp, by simp, fun b k => ?_, r1_rng hn0.1 he, fun b h0 h1 => ⟨rfl, (hbas.held b h0 h1).1⟩, fun v H' g hf => q v H' (gg.trans g) ?_⟩
  · rw [R1_iff]
    simp
  · rcases hf with ⟨p', kvs, G, e1, e2, e3⟩ | h
    · exact .inl ⟨p', kvs, G, e1, gg.free e2, e3⟩
    · exact .inr h
end
def sp_Blocks_forest_with (K : PySem.W.Frag) : Sp := fun vs H Q _ => vs.length = 4 ∧ ∃ A n s e b u w, vs = [.ref A.bl, .int e, .int b, u] ∧ BlkAt K A H n s ∧ Bas n s ∧ Env e ∧ WdV K H u w ∧ w.length = 8 ∧ ∀ v H', Go [] H H' → FoR K H H' v n (R1 e) (setW s.held b w) → Q v H'
section
variable {P : Program} {w : World} {K : PySem.W.Frag} {mg : Str → Option Value} {base : Heap}
theorem ok_Blocks_forest_with (T : Txt w K mg) (c_Blocks_forest : C8.Met P w K mg base 4 (He.ga K "Blocks") "forest" (sp_Blocks_forest K) []) : C8.Met P w K mg base 5 (He.ga K "Blocks") "forest_with" (sp_Blocks_forest_with K) [] := by
  refine met_go T.f_Blocks_forest_with T.k_Blocks T.me_Blocks_forest_with sc_Blocks_forest_with (fun _ _ _ _ _ _ us hl => match us, hl with | [_, _, _, _], _ => rfl) (fun _ _ _ _ h => h.1) fun cdv A outer s H vs Q E hr h => ?_
  refine ⟨_, (pss_one (ps_ret (C8.pe_mt c_Blocks_forest hr (by decide) (pv 0) (pa_cons (pe_lst (pa_cons (pe_tup (pa_cons (pv 1) (pa_cons (C8.pe_gc (by rfl) T.g_ROOT) pa_nil))) pa_nil)) (pa_cons (pe_disp (pps_cons (pv 2) (pv 3) pps_nil) (by rfl) (by rfl) (fun z => by cases z) (by decide)) pa_nil))))), ?_⟩
  obtain ⟨_, A, n, s, e, b, u, w, rfl, B, hbas, he, hu, hw, q⟩ := h
  have hn0 := B.disk.n0
  refine ⟨_, rfl, A.bl, _, _, rfl, B.ins, rfl, _, rfl, (by decide : 2 ≤ sizeLine), fun p hp => ⟨(by decide : 1 ≤ sizeLine), fun rl hrl => fun td htd => ?_⟩⟩
  have g1 : Go [] H (upd H p (.tup [.int e, .int 1])) := Go.new hp
  have hp1 : SqT K (upd H p (.tup [.int e, .int 1])) p [.int e, .int 1] := .inl (.inl upd_same)
  generalize upd H p (.tup [.int e, .int 1]) = H1 at g1 hp1 hrl htd ⊢
  have g2 : Go [] H1 (upd H1 rl (.lst [.ref p])) := Go.new hrl
  have hr2 : upd H1 rl (.lst [.ref p]) rl = some (.lst [.ref p]) := upd_same
  generalize upd H1 rl (.lst [.ref p]) = H2 at g2 hr2 htd ⊢
  refine ⟨_, rfl, _, rfl, upd_same, [(Sum.inl b, u)], rfl, (by show 1 ≤ 15; decide), ?_⟩
  rw [upd_upd]
  have g3 : Go [] H2 (upd H2 td (.dK (mergeK [] [(Sum.inl b, u)]))) := Go.new htd
  have gg := g1.trans (g2.trans g3)
  refine ⟨rfl, A, n, s, rl, td, [(e, some 1)], [.ref p], [(Sum.inl b, u)], setO (fun _ => none) b (some w), R1 e, setW s.held b w, rfl, B.go gg, g3.at hr2, .cons ⟨p, rfl, g3.tup (g2.tup hp1)⟩ .nil, upd_same, MapR.put (kvs := []) (v := u) MapR.nil (hu.go gg), by simp, by simp, fun b k => ?_, r1_rng hn0.1 he, fun x h0 h1 => ?_, fun v H' g hf => q v H' (gg.trans g) ?_⟩
  · rw [R1_iff]
    simp
  · by_cases ex : x = b
    · subst ex
      rw [setW_same, setO_same]
      exact ⟨rfl, hw⟩
    · rw [setW_ne ex, setO_ne ex]
      exact ⟨rfl, (hbas.held x h0 h1).1⟩
  · rcases hf with ⟨p', kvs, G, e1, e2, e3⟩ | h
    · exact .inl ⟨p', kvs, G, e1, gg.free e2, e3⟩
    · exact .inr h
end
def kK (s : St) (b : Int) : Option Int := match s.kept b with
  | some p => p.2
  | none => none
theorem sq_unlock {K : PySem.W.Frag} {H : Hp} {d a : Addr} {od : Obj} {kvs : List (Key × V)} {u : HO} {xs : List V} (h : H d = some (.frz od (.dK kvs))) (q : SqT K H a xs) : SqT K (upd H d u) a xs := by
  rcases q with (q | ⟨o, q⟩) | q
  · refine .inl (.inl ?_)
    rw [upd_ne (ne_of q h (by simp))]
    exact q
  · refine .inl (.inr ⟨o, ?_⟩)
    rw [upd_ne (ne_of q h (by simp))]
    exact q
  · exact .inr q
theorem tup_unlock {K : PySem.W.Frag} {H : Hp} {d : Addr} {v : V} {od : Obj} {kvs : List (Key × V)} {u : HO} {xs : List V} (h : H d = some (.frz od (.dK kvs))) (q : TupIs K H v xs) : TupIs K (upd H d u) v xs := let ⟨a, e, z⟩ := q; ⟨a, e, sq_unlock h z⟩
theorem nodup_map_int {l : List Int} (h : l.Nodup) (g : Int → Int × Option Int) (hg : ∀ b, (g b).1 = b) : (l.map g).map (·.1) = l := by
  rw [List.map_map]
  have : ((fun x : Int × Option Int => x.1) ∘ g) = id := funext fun b => hg b
  rw [this, List.map_id]
def sp_Blocks_memory_forest (K : PySem.W.Frag) : Sp := fun vs H Q _ => vs.length = 2 ∧ ∃ A n s e, vs = [.ref A.bl, .int e] ∧ BlkAt K A H n s ∧ Bas n s ∧ Env e ∧ ∀ v H', Go [] H H' → FoR K H H' v n (RM s e) (memW s) → Q v H'
section
variable {P : Program} {w : World} {K : PySem.W.Frag} {mg : Str → Option Value} {base : Heap}
theorem ok_Blocks_memory_forest (T : Txt w K mg) (c_Blocks_forest : C8.Met P w K mg base 4 (He.ga K "Blocks") "forest" (sp_Blocks_forest K) []) (c_Blocks_reserved : C8.Met P w K mg base 1 (He.ga K "Blocks") "reserved" (sp_Blocks_reserved K) []) : C8.Met P w K mg base 5 (He.ga K "Blocks") "memory_forest" (sp_Blocks_memory_forest K) [] := by
  refine met_go T.f_Blocks_memory_forest T.k_Blocks T.me_Blocks_memory_forest sc_Blocks_memory_forest (fun _ _ _ _ _ _ us hl => match us, hl with | [_, _], _ => rfl) (fun _ _ _ _ h => h.1) fun cdv A outer s H vs Q E hr h => ?_
  have hu := hu_of hr
  refine ⟨_, (pss_cons (ps_set (i := 2) sc_Blocks_memory_forest.nd rfl (by first | exact Or.inl rfl | exact Or.inr rfl) (pe_lst (pa_cons (pe_tup (pa_cons (pv 1) (pa_cons (C8.pe_gc (by rfl) T.g_ROOT) pa_nil))) pa_nil)))
    (pss_cons (ps_for PassesOwn.never rfl (pi_list (C8.pe_mt c_Blocks_reserved hr (by decide) (pv 0) (pa_cons (pv 1) pa_nil))) (pg_name (i := 3) sc_Blocks_memory_forest.nd rfl (by first | exact Or.inl rfl | exact Or.inr rfl)) (pss_one (ps_expr (pe_bm PySem.F.plainAttrs_list PySem.F.slot_list_append PySem.F.type_list_append mt_append (pv 2) (pa_cons (pe_tup (pa_cons (pv 3) (pa_cons (pe_ix (show IxR _ (rIxT K) from ix_tup) (pe_dget hu (pe_fldK K rfl (pv 0) rfl) (pv 3) (fun _ _ => rfl)) pe_int (fun _ _ => rfl)) pa_nil))) pa_nil)))))
    (pss_one (ps_ret (C8.pe_mt c_Blocks_forest hr (by decide) (pv 0) (pa_cons (pv 2) (pa_cons (pe_lock (pe_dc (own := [("block", 3)]) rfl sc_Blocks_memory_forest.nd (pi_keys (pe_fldK K rfl (pv 0) rfl)) (blkOk_by (own := [("block", 3)]) (N := n_Blocks_memory_forest) (sc := defScope s_Blocks_memory_forest) (by decide +kernel)) (fun _ _ _ _ _ => (pg_name (i := 3) sc_Blocks_memory_forest.nd rfl (by first | exact Or.inl rfl | exact Or.inr rfl))) (fun _ _ _ _ _ => pts_nil) (fun _ _ _ _ _ => (pv 3)) (fun _ _ _ _ _ => (pe_ix (show IxR _ (rIxT K) from ix_tup) (pe_dget hu (pe_fldK K rfl (pv 0) rfl) (pv 3) (fun _ _ => rfl)) pe_int (fun _ _ => rfl))))) pa_nil))))))), ?_⟩
  obtain ⟨_, A, n, s, e, rfl, B, hbas, he, q⟩ := h
  have hn0 := B.disk.n0
  refine ⟨_, rfl, (by decide : 2 ≤ sizeLine), fun p hp => ⟨(by decide : 1 ≤ sizeLine), fun rl hrl => ?_⟩⟩
  have g1 : Go [] H (upd H p (.tup [.int e, .int 1])) := Go.new hp
  have hp1 : SqT K (upd H p (.tup [.int e, .int 1])) p [.int e, .int 1] := .inl (.inl upd_same)
  generalize upd H p (.tup [.int e, .int 1]) = H1 at g1 hp1 hrl ⊢
  have g2 : Go [] H1 (upd H1 rl (.lst [.ref p])) := Go.new hrl
  have hr2 : upd H1 rl (.lst [.ref p]) rl = some (.lst [.ref p]) := upd_same
  have hrl0 : H rl = none := g1.free hrl
  have hp2 := g2.tup hp1
  have g12 := g1.trans g2
  generalize upd H1 rl (.lst [.ref p]) = H2 at g2 hr2 hp2 g12 ⊢
  have B2 := B.go g12
  refine ⟨_, rfl, A.bl, _, _, rfl, B2.ins, rfl, _, rfl, rfl, A, n, s, e, rfl, B2, hbas, fun pl ns H3 g3 hpl0 hpl hnd hmem hnl => ?_⟩
  have nrp : rl ≠ pl := ne_of_none hr2 hpl0
  have hpl00 : H pl = none := g12.free hpl0
  have hrr3 : Paired (RtV K H3) [.ref p] [(e, some 1)] := .cons ⟨p, rfl, g3.tup hp2⟩ .nil
  refine ⟨pl, rfl, ⟨_, .inl (.inl hpl)⟩, ?_⟩
  refine for_it wk_list (fun i σ H' => ∃ x3 rvs, σ = [some (.ref A.bl), some (.int e), some (.ref rl), x3] ∧ Go [] H H' ∧ H' pl = some (.lst (ns.map V.int)) ∧ H' rl = some (.lst rvs) ∧ rvs.length ≤ i + 1 ∧ Paired (RtV K H') rvs ((e, some 1) :: (ns.take i).map fun b => (b, kK s b)))
    ⟨_, _, rfl, g12.trans g3, hpl, g3.at hr2, by simp, hrr3⟩ (fun i σ H' _ p => by obtain ⟨_, _, _, _, h, _⟩ := p; exact .inl (.inl h)) ?_ ?_
  · rintro i x σ H0 H4 hi ⟨x3, rvs, rfl, g4, hpl4, hrl4, hll, hP4⟩ ⟨rfl, hx⟩
    rw [List.length_map] at hi
    obtain ⟨b, hb, rfl⟩ := map_at hx
    obtain ⟨k, hk⟩ := (hmem b).mp (List.mem_of_getElem? hb)
    have B4 := B.go g4
    obtain ⟨kvs, k1, k2⟩ := B4.keptD
    obtain ⟨v, v1, t, rfl, ht⟩ := k2.gets hk
    have dg := DGet.k (k := Sum.inl b) k1
    rw [v1] at dg
    refine ⟨_, rfl, .inl ⟨rfl, _, .inl (.inl hrl4)⟩, _, rfl, _, rfl, _, _, _, _, _, rfl, B4.ins, T.k_Blocks, T.na_Blocks_kept, rfl, _, rfl, A.ke, _, rfl, dg, t, _, 1, _, rfl, rfl, ht, rfl, (by decide : 2 ≤ sizeLine), fun q2 hq2 => ?_⟩
    have g5 : Go [] H4 (upd H4 q2 (.tup [.int b, oV k])) := Go.new hq2
    have hq5 : SqT K (upd H4 q2 (.tup [.int b, oV k])) q2 [.int b, oV k] := .inl (.inl upd_same)
    have hrl5 := g5.at hrl4
    have hpl5 := g5.at hpl4
    refine ⟨rl, rvs, .ref q2, rfl, rfl, hrl5, lt_sl (by omega), ?_⟩
    generalize upd H4 q2 (.tup [.int b, oV k]) = H5 at g5 hq5 hrl5 hpl5 ⊢
    have g6 : Go [rl] H5 (upd H5 rl (.lst (rvs ++ [.ref q2]))) := Go.put List.mem_cons_self (by rw [hrl5]; trivial)
    refine ⟨_, _, rfl, (g4.trans g5).late hrl0, by rw [upd_ne nrp.symm]; exact hpl5, upd_same, by rw [List.length_append]; simp; omega, ?_⟩
    have e1 : ns.take (i + 1) = ns.take i ++ [b] := by rw [List.take_add_one, hb] <;> rfl
    have e2 : kK s b = k := by unfold kK; rw [hk]
    rw [e1, List.map_append, ← List.cons_append]
    refine paired_app (Paired.mapP hP4 fun _ _ z => (z.go g5).go g6) (.cons ⟨q2, rfl, ?_⟩ .nil)
    show SqT K _ q2 [.int b, oV (kK s b)]
    rw [e2]
    exact g6.tup hq5
  · rintro σ H4 ⟨x3, rvs, rfl, g4, hpl4, hrl4, hll, hP4⟩
    rw [List.length_map, List.take_length] at hP4
    have B4 := B.go g4
    obtain ⟨kvs, k1, k2⟩ := B4.bufD
    have hkl : kvs.length ≤ 64 := k2.len (n := 64) fun b x hb => by
      obtain ⟨_, z1, z2, _⟩ := hbas.buf b x.1 x.2 hb
      omega
    refine ⟨_, rfl, A.bl, _, _, rfl, B4.ins, rfl, _, rfl, A.bu, _, k1, trivial, fun od => ?_⟩
    have hBl : upd H4 A.bu (.frz od (.dK kvs)) A.bl = some (.ins (He.ga K "Blocks") A.dxb [("disk", .ref A.dk), ("shares", .ref A.sh), ("types", .ref A.ty), ("buffers", .ref A.bu), ("kept", .ref A.ke), ("fresh", .ref A.fr)]) := by
      rw [upd_ne (ne_of B4.ins k1 (by simp))]
      exact B4.ins
    have hke : upd H4 A.bu (.frz od (.dK kvs)) A.bu = some (.frz od (.dK kvs)) := upd_same
    have gl0 : Go [A.bu] H4 (upd H4 A.bu (.frz od (.dK kvs))) := Go.lock0 k1 trivial
    have gl := fun H' => @Go.lock H4 H' A.bu (.dK kvs) od k1 trivial
    generalize upd H4 A.bu (.frz od (.dK kvs)) = H5 at hBl hke gl0 gl ⊢
    refine ⟨_, rfl, _, _, _, _, _, rfl, hBl, T.k_Blocks, T.na_Blocks_buffers, rfl, A.bu, od, rfl, .inl ⟨kvs, hke, ?_⟩⟩
    refine dc_go (fun i c H' => c.map (fun p => p.1) = (kvs.take i).map (fun p => p.1) ∧ ∀ k v, valV c k = some v → ∃ b x, k = .inl b ∧ s.buf b = some x ∧ WdV K H' v x.2) wk_keys (le_sl (by omega)) (fun H' g => g.at hke) (fun _ _ => ⟨rfl, fun k v h => by cases h⟩) (fun i acc D H1 H2 _ h g => ⟨h.1, fun k v hk => let ⟨b, x, e1, e2, e3⟩ := h.2 k v hk; ⟨b, x, e1, e2, e3.go g⟩⟩) ?_ ?_
    · rintro i x c H' hi ⟨k, v, hkv, rfl⟩ hl g ⟨hck, hcv⟩ K1 K2 kk1
      obtain ⟨b, x, rfl, hb, u, ⟨t, rfl, ht⟩, hu⟩ := k2.at hkv
      obtain ⟨hnt, htk⟩ := nd_take k2.nd hkv
      have hv : valV kvs (Sum.inl b) = some (V.ref t) := val_nodup k2.nd (Sum.inl b, V.ref t) (List.mem_of_getElem? hkv)
      have dg : DGet H' A.bu (kV (Sum.inl b)) (some (V.ref t)) := .inl ⟨kvs, Sum.inl b, .inr ⟨od, g.at hke⟩, rfl, hv.symm⟩
      have ht' : SqT K H' t [.int x.1, u] := g.tup (gl0.tup ht)
      have hcn : valV c (Sum.inl b) = none := by
        cases z : valV c (Sum.inl b) with
        | none => rfl
        | some y => exact absurd (by have := valV_in z; rw [hck] at this; exact this) hnt
      refine ⟨rfl, _, rfl, _, rfl, _, _, _, _, _, rfl, g.at hBl, T.k_Blocks, T.na_Blocks_buffers, rfl, _, rfl, A.bu, _, rfl, dg, t, _, 1, _, rfl, rfl, ht', rfl, kk1 (Sum.inl b) u _ Go.refl ⟨?_, fun k' v' hk' => ?_⟩⟩
      · rw [putK_new _ hcn, List.map_append, hck, htk] <;> rfl
      · rw [valV_put] at hk'
        by_cases ek : k' = Sum.inl b
        · rw [if_pos ek] at hk'
          cases hk'
          exact ⟨b, x, ek, hb, (hu.go gl0).go g⟩
        · rw [if_neg ek] at hk'
          exact hcv k' v' hk'
    · rintro D c H' hD g hacc ⟨hck, hcv⟩
      refine ⟨g.at hke, ?_⟩
      have g6 := gl H' g
      have nD : D ≠ A.bu := (ne_of_none hke hD).symm
      have hD6 : upd H' A.bu (.dK kvs) D = some (.dK c) := by rw [upd_ne nD]; exact hacc
      have gg := g4.trans g6
      refine ⟨rfl, A, n, s, rl, D, (e, some 1) :: ns.map fun b => (b, kK s b), rvs, c, fun b => (s.buf b).map Prod.snd, RM s e, memW s, rfl, B.go gg, g6.at hrl4, Paired.mapP hP4 fun _ _ z => z.go g6, hD6, ⟨?_, ?_, ?_⟩, ?_, ?_, fun b k => ?_, fun b k hb => ?_, fun b h0 h1 => ?_, fun v H' g hf => q v H' (gg.trans g) ?_⟩
      · rw [hck, List.take_length]
        exact k2.nd
      · intro k v hk
        obtain ⟨b, x, e1, e2, e3⟩ := hcv k v hk
        exact ⟨b, x.2, e1, by rw [e2] <;> rfl, tup_unlock (g.at hke) e3⟩
      · intro b x hx
        cases hb : s.buf b with
        | none => rw [hb] at hx; cases hx
        | some y =>
          obtain ⟨v, hv⟩ := k2.cpl b y hb
          have hm := valV_in hv
          rw [← List.take_length (l := kvs), ← hck] at hm
          cases z : valV c (Sum.inl b) with
          | none => exact absurd hm (valV_not z)
          | some w => exact ⟨w, rfl⟩
      · rw [List.map_cons, nodup_map_int hnd _ fun b => rfl]
        refine List.nodup_cons.mpr ⟨fun m => ?_, hnd⟩
        obtain ⟨k, hk⟩ := (hmem e).mp m
        exact hbas.kept4 hk rfl
      · rw [List.length_cons, List.length_map]
        omega
      · rw [List.mem_cons, List.mem_map]
        by_cases hbe : b = e
        · subst hbe
          rw [RM_root]
          constructor
          · intro z
            rw [Option.some.inj z]
            exact .inl rfl
          · rintro (z | ⟨x, hx, z⟩)
            · injection z with _ z2
              rw [z2]
            · injection z with z1 z2
              subst z1
              obtain ⟨k', hk'⟩ := (hmem x).mp hx
              exact absurd rfl (hbas.kept4 hk')
        · rw [RM_iff hbe]
          constructor
          · intro z
            refine .inr ⟨b, (hmem b).mpr ⟨k, z⟩, ?_⟩
            have : kK s b = k := by unfold kK; rw [z]
            rw [this]
          · rintro (z | ⟨x, hx, z⟩)
            · injection z with z1 _
              exact absurd z1 hbe
            · injection z with z1 z2
              subst z1
              obtain ⟨k', hk'⟩ := (hmem x).mp hx
              have : kK s x = k' := by unfold kK; rw [hk']
              rw [← z2, this]
              exact hk'
      · by_cases hbe : b = e
        · subst hbe
          have h1 := he.1
          have h2 := he.2
          refine ⟨by omega, fun k' q => ?_⟩
          rw [RM_root] at hb
          have e2 := Option.some.inj hb
          rw [← e2] at q
          exact .inr (Option.some.inj q).symm
        · obtain ⟨_, z1, z2, z3⟩ := hbas.kept _ _ _ ((RM_iff hbe).mp hb)
          exact ⟨by omega, fun k' q => .inl (z3 k' q)⟩
      · refine ⟨?_, (hbas.memW h0 h1).1⟩
        show memW s b = ((s.buf b).map Prod.snd).getD (s.held b)
        cases hb : s.buf b with
        | none =>
          rw [memW_none hb]
          rfl
        | some y =>
          rw [memW_some (e := y.1) (w := y.2) hb]
          rfl
      · rcases hf with ⟨p', kvs', G, e1, e2, e3⟩ | h
        · exact .inl ⟨p', kvs', G, e1, gg.free e2, e3⟩
        · exact .inr h
end

end SH

set_option Elab.async false
set_option linter.all false
set_option maxRecDepth 100000
set_option maxHeartbeats 4000000
namespace SH
open PySem PySem.Spec PyProof.Rows L2
/-! ### two forests as dicts: alike or not -/
def oD : Option Int → PyData
  | none => .none
  | some i => .int i
theorem o_dp {K : PySem.W.Frag} {H : Hp} (k : Option Int) : Dp K H (oV k) (oD k) := by
  cases k with
  | none => exact .non
  | some k => exact .int _
def foD (x : Option Int × Option Int) : PyData := .tuple [oD x.1, oD x.2]
theorem fo_dp {K : PySem.W.Frag} {H : Hp} {x : Option Int × Option Int} {v : V} (h : FoV K H x v) : Dp K H v (foD x) := by
  obtain ⟨a, rfl, ha⟩ := h
  exact .tup (.inl (.inl ha)) (.cons (o_dp _) (.cons (o_dp _) .nil))
theorem fo_sh (x : Option Int × Option Int) : SeqAt.shaped (foD x) = true := by
  obtain ⟨a, b⟩ := x
  cases a <;> cases b <;> rfl
theorem oD_eq (a b : Option Int) : PyData.eqv (oD a) (oD b) = decide (a = b) := by
  cases a <;> cases b <;> simp [oD, PyData.eqv]
  exact Bool.eq_iff_iff.mpr (by simp)
theorem fo_eq (x y : Option Int × Option Int) : PyData.eqv (foD x) (foD y) = decide (x = y) := by
  obtain ⟨a, b⟩ := x
  obtain ⟨c, d⟩ := y
  show (PyData.eqv (oD a) (oD c) && (PyData.eqv (oD b) (oD d) && true)) = _
  rw [oD_eq, oD_eq]
  exact Bool.eq_iff_iff.mpr (by simp)
theorem oV_inj {a b : Option Int} (h : oV a = oV b) : a = b := by
  cases a <;> cases b <;> simp_all [oV]
theorem fo_inj {K : PySem.W.Frag} {H : Hp} {x y : Option Int × Option Int} {v : V} (h1 : FoV K H x v) (h2 : FoV K H y v) : x = y := by
  obtain ⟨a, rfl, ha⟩ := h1
  obtain ⟨b, eb, hb⟩ := h2
  cases eb
  rw [ha] at hb
  injection hb with e
  injection e with e
  injection e with e1 e2
  injection e2 with e2 _
  exact Prod.ext (oV_inj e1) (oV_inj e2)
open Classical in
noncomputable def qFo (K : PySem.W.Frag) (H : Hp) (x y : V) : Bool := decide (∃ a, FoV K H a x ∧ FoV K H a y)
open Classical in
theorem qFo_iff {K : PySem.W.Frag} {H : Hp} {x y : V} : qFo K H x y = true ↔ ∃ a, FoV K H a x ∧ FoV K H a y := by
  unfold qFo
  exact decide_eq_true_iff
theorem keys_sub {α β : Type} {ks ls : List (Key × V)} {f : Int → Option α} {g : Int → Option β} {R : α → V → Prop} {R' : β → V → Prop} (m : MapR ks f R) (m2 : MapR ls g R') (h : ∀ b x, f b = some x → ∃ y, g b = some y) : ∀ k ∈ ks.map (fun p => p.1), k ∈ ls.map (fun p => p.1) := fun k hk => by
  obtain ⟨p, hp, rfl⟩ := List.mem_map.mp hk
  obtain ⟨b, x, e1, e2, _⟩ := m.snd p.1 p.2 (val_nodup m.nd p hp)
  obtain ⟨y, hy⟩ := h b x e2
  obtain ⟨v, hv⟩ := m2.cpl b y hy
  have e1' : p.1 = Sum.inl b := e1
  show p.1 ∈ _
  rw [e1']
  exact valV_in hv
theorem ne_maps {K : PySem.W.Frag} {H : Hp} {Q : VK} {a b : Addr} {ks ls : List (Key × V)} {G1 G2 : Mp} (ha : H a = some (.dK ks)) (hb : H b = some (.dK ls)) (m1 : MapR ks G1 (FoV K H)) (m2 : MapR ls G2 (FoV K H))
    (q1 : G1 ≠ G2 → Q (.bl true) H) (q2 : G1 = G2 → Q (.bl false) H) : rNeO K (.ref a) (.ref b) H Q := by
  refine .inr ⟨a, b, ks, ls, qFo K H, rfl, rfl, ha, hb, fun p hp v hv => ?_, ?_⟩
  · obtain ⟨b1, x1, e1, e2, f1⟩ := m1.snd p.1 p.2 (val_nodup m1.nd p hp)
    obtain ⟨b2, x2, e3, e4, f2⟩ := m2.snd p.1 v hv
    refine ⟨foD x1, foD x2, fo_dp f1, fo_dp f2, fo_sh _, fo_sh _, ?_⟩
    rw [fo_eq]
    refine Bool.eq_iff_iff.mpr ?_
    rw [qFo_iff, decide_eq_true_iff]
    constructor
    · rintro ⟨a, z1, z2⟩
      rw [fo_inj f1 z1, fo_inj f2 z2]
    · intro z
      exact ⟨x1, f1, by rw [z]; exact f2⟩
  · by_cases e : G1 = G2
    · have h1 : ks.length = ls.length := by
        have z1 := nodup_le m1.nd (keys_sub m1 m2 fun b x h => ⟨x, by rw [← e]; exact h⟩)
        have z2 := nodup_le m2.nd (keys_sub m2 m1 fun b x h => ⟨x, by rw [e]; exact h⟩)
        simp only [List.length_map] at z1 z2
        omega
      have h2 : eqAll (qFo K H) ks ls = true := by
        unfold eqAll
        refine List.all_eq_true.mpr fun p hp => ?_
        obtain ⟨b1, x1, e1, e2, f1⟩ := m1.snd p.1 p.2 (val_nodup m1.nd p hp)
        rw [e] at e2
        obtain ⟨v, hv, f2⟩ := m2.gets e2
        rw [e1, hv]
        exact qFo_iff.mpr ⟨x1, f1, f2⟩
      rw [decide_eq_true h1, h2]
      exact q2 e
    · have h : (decide (ks.length = ls.length) && eqAll (qFo K H) ks ls) = false := by
        by_cases h1 : ks.length = ls.length
        · rw [decide_eq_true h1, Bool.true_and]
          cases h2 : eqAll (qFo K H) ks ls with
          | false => rfl
          | true =>
            have hsub : ∀ b x, G1 b = some x → G2 b = some x := fun b x hx => by
              obtain ⟨i, v, hi⟩ := m1.has hx
              obtain ⟨b', x', e1, e2, f1⟩ := m1.at hi
              cases e1
              rw [hx] at e2
              cases e2
              have hq := List.all_eq_true.mp h2 _ (List.mem_of_getElem? hi)
              dsimp only at hq
              cases hv : valV ls (Sum.inl b) with
              | none => rw [hv] at hq; cases hq
              | some u =>
                rw [hv] at hq
                obtain ⟨y, z1, z2⟩ := qFo_iff.mp (show qFo K H v u = true from hq)
                obtain ⟨b2, x2, e3, e4, f2⟩ := m2.snd _ u hv
                cases e3
                rw [e4, fo_inj f2 z2, fo_inj z1 f1]
            refine absurd ?_ e
            funext b
            cases h3 : G1 b with
            | some x => exact (hsub b x h3).symm
            | none =>
              cases h4 : G2 b with
              | none => rfl
              | some y =>
                obtain ⟨v, hv⟩ := m2.cpl b y h4
                have hk := nodup_all m1.nd (keys_sub m1 m2 fun b x h => ⟨x, hsub b x h⟩) (by simp only [List.length_map]; omega) _ (valV_in hv)
                cases h5 : valV ks (Sum.inl b) with
                | none => exact absurd hk (valV_not h5)
                | some u =>
                  obtain ⟨b2, x2, e3, e4, f2⟩ := m1.snd _ u h5
                  cases e3
                  rw [h3] at e4
                  cases e4
        · rw [decide_eq_false h1, Bool.false_and]
      rw [h]
      exact q1 e
/-- the result of a walk, where the forest is known -/
theorem FoR.is {K : PySem.W.Frag} {H H' : Hp} {v : V} {n : Int} {R : Rt} {W : Int → Wd} {G : Mp} (h : FoR K H H' v n R W) (F : IsF n gdF R W G) : ∃ p kvs, v = .ref p ∧ H p = none ∧ H' p = some (.dK kvs) ∧ MapR kvs G (FoV K H') ∧ ∀ b x, G b = some x → 0 ≤ b ∧ b < n := by
  rcases h with ⟨p, kvs, G', e1, e2, e3, e4, e5, e6⟩ | ⟨_, h⟩
  · rw [e5.uniq F] at e4 e6
    exact ⟨p, kvs, e1, e2, e3, e4, e6⟩
  · exact absurd ⟨G, F⟩ h
theorem qt_out {n : Int} {s : St} {L M C : Int → Mp} (I : InvB n gdF s L M C) {e b : Int} {w : Wd} (he : Env e) (h : L e b = none) : Qt n gdF s L b w e :=
  (I.lf e he).same fun x v hx => setW_ne fun z => by rw [z, h] at hx; cases hx
/-! ### dicts by their keys -/
def DomIs (kvs : List (Key × V)) (P : Int → Prop) : Prop := ∃ f : Int → Option Unit, MapR kvs f (fun _ _ => True) ∧ ∀ b, f b = some () ↔ P b
section
variable {kvs more : List (Key × V)} {P P' : Int → Prop} {b : Int} {v : V}
theorem DomIs.of {α : Type} {f : Int → Option α} {R : α → V → Prop} (m : MapR kvs f R) : DomIs kvs fun b => ∃ x, f b = some x :=
  ⟨fun b => (f b).map fun _ => (), ⟨m.nd, fun k v h => let ⟨b, x, e1, e2, _⟩ := m.snd k v h; ⟨b, (), e1, by rw [e2] <;> rfl, trivial⟩, fun b x h => by
    cases e : f b with
    | none => rw [e] at h; cases h
    | some y => exact m.cpl b y e⟩, fun b => by
    cases f b with
    | none => simp
    | some y => simp⟩
theorem DomIs.congr (d : DomIs kvs P) (h : ∀ b, P b ↔ P' b) : DomIs kvs P' := let ⟨f, m, e⟩ := d; ⟨f, m, fun b => (e b).trans (h b)⟩
theorem DomIs.nil : DomIs [] fun _ => False := ⟨fun _ => none, MapR.nil, fun b => by simp⟩
theorem DomIs.put (d : DomIs kvs P) : DomIs (putK kvs (.inl b) v) fun x => P x ∨ x = b := by
  obtain ⟨f, m, e⟩ := d
  refine ⟨_, m.put (b := b) (x := ()) (v := v) trivial, fun x => ?_⟩
  by_cases h : x = b
  · subst h
    simp [setO_same]
  · rw [setO_ne h, e x]
    simp [h]
theorem DomIs.merge (d : DomIs kvs P) (d2 : DomIs more P') : DomIs (mergeK kvs more) fun x => P x ∨ P' x := by
  obtain ⟨f, m, e⟩ := d
  obtain ⟨g, m2, e2⟩ := d2
  refine ⟨_, m.merge m2, fun x => ?_⟩
  dsimp only
  cases h : g x with
  | none =>
    have : ¬ P' x := fun z => by rw [(e2 x).mpr z] at h; cases h
    simp [e x, this]
  | some u => simp [(e2 x).mp h]
theorem DomIs.len (d : DomIs kvs P) {n : Int} (hn : n ≤ 64) (h : ∀ b, P b → 0 ≤ b ∧ b < n) : kvs.length ≤ 64 := by
  obtain ⟨f, m, e⟩ := d
  exact m.len (n := 64) fun b x hb => by
    have := h b ((e b).mp hb)
    omega
theorem DomIs.isS (d : DomIs kvs P) : (valV kvs (.inl b)).isSome = true ↔ P b := by
  obtain ⟨f, m, e⟩ := d
  rw [m.isSome, ← e b]
  cases f b <;> simp
theorem DomIs.at (d : DomIs kvs P) {i : Nat} {k : Key} (h : kvs[i]? = some (k, v)) : ∃ b, k = .inl b ∧ P b := by
  obtain ⟨f, m, e⟩ := d
  obtain ⟨b, x, e1, e2, _⟩ := m.at h
  exact ⟨b, e1, (e b).mp e2⟩
theorem DomIs.nd (d : DomIs kvs P) : (kvs.map (·.1)).Nodup := let ⟨_, m, _⟩ := d; m.nd
theorem DomIs.mem (d : DomIs kvs P) : (Sum.inl b : Key) ∈ kvs.map (fun p : Key × V => p.1) ↔ P b := by
  rw [← d.isS]
  constructor
  · intro h
    cases z : valV kvs (Sum.inl b) with
    | none => exact absurd h (valV_not z)
    | some y => rfl
  · intro h
    cases z : valV kvs (Sum.inl b) with
    | none => rw [z] at h; cases h
    | some y => exact valV_in z
end
theorem ch_rng {n : Int} {s : St} {L M C : Int → Mp} (I : InvB n gdF s L M C) (hn : 24 ≤ n) {e b : Int} (he : Env e) (h : Ch s L M C e b) : 0 ≤ b ∧ b < n := by
  rcases h with ⟨v, h⟩ | ⟨v, h⟩ | ⟨v, h⟩ | ⟨op, h, _, h2⟩
  · have := I.lrng (by omega) he h
    omega
  · exact I.mrng (by omega) he h
  · obtain ⟨b', w, h1, h2⟩ := I.cz e b v h
    rcases (I.qw b' w e h1).2 with z | ⟨_, z, _⟩
    · exact absurd z h2
    · obtain ⟨o, k⟩ := v
      rcases z.rng h with ⟨q, _⟩ | ⟨q1, q2, _⟩
      · have := (R1_iff.mp q).1
        have := he.1
        have := he.2
        omega
      · omega
  · have := I.bas.queue op h
    rw [h2] at this
    exact this.2
theorem opv_env {K : PySem.W.Frag} {H : Hp} {v : V} {op : Op} (h : OpV K H v op) : ∃ a, v = .ref a ∧ ∃ l, SqT K H a l ∧ atI l 1 = some (.int op.blk) ∧ atI l (-1) = some (.int op.env) := by
  cases op with
  | wr b w e =>
    obtain ⟨u, ⟨a, e1, h1⟩, _⟩ := h
    exact ⟨a, e1, _, h1, rfl, rfl⟩
  | rd b e =>
    obtain ⟨a, e1, h1⟩ := h
    exact ⟨a, e1, _, h1, rfl, rfl⟩
def sp_Blocks_coming (K : PySem.W.Frag) : Sp := fun vs H Q _ => vs.length = 2 ∧ ∃ A n s e L M C, vs = [.ref A.bl, .int e] ∧ BlkAt K A H n s ∧ InvB n gdF s L M C ∧ Env e ∧
  ∀ p kvs H', Go [] H H' → H p = none → H' p = some (.dK kvs) → MapR kvs (C e) (FoV K H') → Q (.ref p) H'
section
variable {P : Program} {w : World} {K : PySem.W.Frag} {mg : Str → Option Value} {base : Heap}
theorem ok_Blocks_coming (T : Txt w K mg) (c_Blocks_forest_with : C8.Met P w K mg base 5 (He.ga K "Blocks") "forest_with" (sp_Blocks_forest_with K) []) (c_Blocks_lasting_forest : C8.Met P w K mg base 5 (He.ga K "Blocks") "lasting_forest" (sp_Blocks_lasting_forest K) []) (c_Disk_queue : C8.Met P w K mg base 1 (He.ga K "Disk") "queue" (sp_Disk_queue K) []) : C8.Met P w K mg base 6 (He.ga K "Blocks") "coming" (sp_Blocks_coming K) [] := by
  refine met_go T.f_Blocks_coming T.k_Blocks T.me_Blocks_coming sc_Blocks_coming (fun _ _ _ _ _ _ us hl => match us, hl with | [_, _], _ => rfl) (fun _ _ _ _ h => h.1) fun cdv A outer s H vs Q E hr h => ?_
  have hu := hu_of hr
  have hu65 := hu65_of hr
  refine ⟨_, (pss_cons (ps_set (i := 2) sc_Blocks_coming.nd rfl (by first | exact Or.inl rfl | exact Or.inr rfl) (C8.pe_mt c_Blocks_lasting_forest hr (by decide) (pv 0) (pa_cons (pv 1) pa_nil)))
    (pss_cons (ps_for PassesOwn.never rfl (pi_list (C8.pe_mt0 c_Disk_queue hr (by decide) (pe_fldK K rfl (pv 0) rfl))) (pg_name (i := 3) sc_Blocks_coming.nd rfl (by first | exact Or.inl rfl | exact Or.inr rfl)) (pss_one (ps_if (PW.pt (pw_and (pt_cmpR op_eq (pe_ix (show IxR _ (rIxT K) from ix_tup) (pv 3) pe_int (fun _ _ => rfl)) pe_str (nomark _)) (pw_and (pt_cmpR op_eq (pe_ix (show IxR _ (rIxT K) from ix_tup) (pv 3) pe_int (fun _ _ => rfl)) (pv 1) (nomark _)) (pw_and1 (pt_cmp (pc_din hu (pe_ix (show IxR _ (rIxT K) from ix_tup) (pv 3) pe_int (fun _ _ => rfl)) (pv 2))))))) (pss_cons (ps_set (i := 4) sc_Blocks_coming.nd rfl (by first | exact Or.inl rfl | exact Or.inr rfl) (C8.pe_mt c_Blocks_forest_with hr (by decide) (pv 0) (pa_cons (pv 1) (pa_cons (pe_ix (show IxR _ (rIxT K) from ix_tup) (pv 3) pe_int (fun _ _ => rfl)) (pa_cons (pe_ix (show IxR _ (rIxT K) from ix_tup) (pv 3) pe_int (fun _ _ => rfl)) pa_nil)))))
    (pss_one (ps_if (pt_cmpR (op_neFor hu65) (pv 4) (pv 2) (nomark _)) (pss_one (ps_ret (pv 4))) pss_nil))) pss_nil)))
    (pss_one (ps_ret pe_dnewK)))), ?_⟩
  obtain ⟨_, A, n, s, e, L, M, C, rfl, B, I, he, q⟩ := h
  have hbas := I.bas
  have hn0 := B.disk.n0
  refine ⟨_, rfl, A.bl, _, _, rfl, B.ins, rfl, _, rfl, rfl, A, n, s, e, rfl, B, hbas, he, fun v H1 g1 hf => ?_⟩
  obtain ⟨p, kvs, rfl, hp0, hp1, hm1, hr1⟩ := hf.is (I.lf e he)
  have B1 := B.go g1
  refine ⟨_, rfl, _, _, _, _, _, rfl, B1.ins, T.k_Blocks, T.na_Blocks_disk, rfl, A.dk, _, _, rfl, B1.disk.ins, rfl, rfl, A.dk, A.dxd, A.he, A.wa, n, s.held, s.queue, rfl, B1.disk, fun pq ws H2 g2 hpq0 hpq hws => ⟨pq, rfl, ⟨_, .inl (.inl hpq)⟩, ?_⟩⟩
  have hwl := hws.length
  refine for_it wk_list (fun i σ H' => ∃ x3 x4, σ = [some (.ref A.bl), some (.int e), some (.ref p), x3, x4] ∧ Go [] H H' ∧ H' pq = some (.lst ws) ∧ Paired (OpV K H') ws s.queue ∧ H' p = some (.dK kvs) ∧ MapR kvs (L e) (FoV K H') ∧ ∀ b w, Op.wr b w e ∈ s.queue.take i → Qt n gdF s L b w e)
    ⟨_, _, rfl, g1.trans g2, hpq, hws, g2.at hp1, hm1.mono fun _ _ _ _ z => z.go g2, fun b w h => by cases h⟩ (fun i σ H' _ p => by obtain ⟨_, _, _, _, h, _⟩ := p; exact .inl (.inl h)) ?_ ?_
  · rintro i x σ H0 H3 hi ⟨x3, x4, rfl, g3, hpq3, hws3, hp3, hm3, hall⟩ ⟨rfl, hx⟩
    obtain ⟨o, ho, hov⟩ := paired_at hws3 hx
    have e1 : s.queue.take (i + 1) = s.queue.take i ++ [o] := by rw [List.take_add_one, ho] <;> rfl
    have fin : ∀ (y3 y4 : Option V) H4, Go [] H3 H4 → (∀ b w, o = Op.wr b w e → Qt n gdF s L b w e) → (∃ x3 x4, [some (V.ref A.bl), some (V.int e), some (V.ref p), y3, y4] = [some (.ref A.bl), some (.int e), some (.ref p), x3, x4] ∧ Go [] H H4 ∧ H4 pq = some (.lst ws) ∧ Paired (OpV K H4) ws s.queue ∧ H4 p = some (.dK kvs) ∧ MapR kvs (L e) (FoV K H4) ∧ ∀ b w, Op.wr b w e ∈ s.queue.take (i + 1) → Qt n gdF s L b w e) := fun y3 y4 H4 g4 hq =>
      ⟨_, _, rfl, g3.trans g4, g4.at hpq3, Paired.mapP hws3 fun _ _ z => z.go g4, g4.at hp3, hm3.mono fun _ _ _ _ z => z.go g4, fun b w h => by
        rw [e1] at h
        rcases List.mem_append.mp h with h | h
        · exact hall b w h
        · exact hq b w (List.mem_singleton.mp h).symm⟩
    cases o with
    | rd b f =>
      obtain ⟨a, rfl, ha⟩ := hov
      refine ⟨_, rfl, a, _, 0, _, rfl, rfl, ha, rfl, rfl, false, rfl, ?_⟩
      exact fin _ _ _ Go.refl fun b w h => by cases h
    | wr b w f =>
      obtain ⟨u, ⟨a, rfl, ha⟩, hu⟩ := hov
      refine ⟨_, rfl, a, _, 0, _, rfl, rfl, ha, rfl, rfl, true, rfl, ?_⟩
      refine ⟨_, rfl, a, _, 3, _, rfl, rfl, ha, rfl, _, rfl, rfl, _, rfl, ?_⟩
      rw [dec_int]
      by_cases hfe : f = e
      · subst hfe
        rw [beq_self_eq_true]
        have hin : Op.wr b w f ∈ s.queue := List.mem_of_getElem? ho
        refine ⟨_, rfl, a, _, 1, _, rfl, rfl, ha, rfl, _, rfl, p, _, rfl, DGet.k (k := Sum.inl b) hp3, _, rfl, ?_⟩
        rw [hm3.isSome]
        cases hL : L f b with
        | none =>
          exact fin _ _ _ Go.refl fun b' w' h => by
            injection h with h1 h2
            subst h1 h2
            exact qt_out I he hL
        | some y =>
          have B3 := B.go g3
          refine ⟨_, rfl, A.bl, _, _, rfl, B3.ins, rfl, _, rfl, _, rfl, a, _, 1, _, rfl, rfl, ha, rfl, _, rfl, a, _, 2, _, rfl, rfl, ha, rfl, ?_⟩
          refine ⟨rfl, A, n, s, f, b, u, w, rfl, B3, hbas, he, hu, (hbas.wrs b w f hin).1, fun v H4 g4 hf4 => ?_⟩
          rcases (I.qw b w f hin).2 with hq | ⟨hnq, hC, _, _⟩
          · obtain ⟨p4, kvs4, rfl, _, hp4, hm4, _⟩ := hf4.is hq
            refine ⟨_, rfl, _, rfl, ne_maps hp4 (g4.at hp3) hm4 (hm3.mono fun _ _ _ _ z => z.go g4) (fun z => absurd rfl z) fun _ => ⟨_, rfl, ?_⟩⟩
            exact fin _ _ _ g4 fun b' w' h => by
              injection h with h1 h2
              subst h1 h2
              exact hq
          · obtain ⟨p4, kvs4, rfl, hp40, hp4, hm4, _⟩ := hf4.is hC
            refine ⟨_, rfl, _, rfl, ne_maps hp4 (g4.at hp3) hm4 (hm3.mono fun _ _ _ _ z => z.go g4) (fun _ => ⟨_, rfl, ?_⟩) fun z => absurd (by unfold Qt; rw [← z]; exact hC) hnq⟩
            exact ⟨_, rfl, q p4 kvs4 _ (g3.trans g4) (g3.free hp40) hp4 hm4⟩
      · rw [beq_eq_false_iff_ne.mpr hfe]
        exact fin _ _ _ Go.refl fun b w h => by
          injection h with _ _ h
          exact absurd h hfe
  · rintro σ H3 ⟨x3, x4, rfl, g3, hpq3, hws3, hp3, hm3, hall⟩
    rw [hwl, List.take_length] at hall
    refine fun p2 hp2 => q p2 [] _ (g3.trans (Go.new hp2)) (g3.free hp2) upd_same (MapR.nil.congr fun b => ?_)
    cases hC : C e b with
    | none => rfl
    | some v =>
      obtain ⟨b', w, h1, h2⟩ := I.cz e b v hC
      exact absurd (hall b' w h1) h2
end
def sp_Blocks_charged (K : PySem.W.Frag) : Sp := fun vs H Q _ => vs.length = 2 ∧ ∃ A n s e L M C, vs = [.ref A.bl, .int e] ∧ BlkAt K A H n s ∧ InvB n gdF s L M C ∧ Env e ∧
  ∀ p (ns : List Int) H', Go [] H H' → H p = none → H' p = some (.lst (ns.map V.int)) → (∀ b, b ∈ ns ↔ 4 ≤ b ∧ Ch s L M C e b) → ns.length ≤ 1000 → Q (.ref p) H'
section
variable {P : Program} {w : World} {K : PySem.W.Frag} {mg : Str → Option Value} {base : Heap}
theorem ok_Blocks_charged (T : Txt w K mg) (c_Blocks_coming : C8.Met P w K mg base 6 (He.ga K "Blocks") "coming" (sp_Blocks_coming K) []) (c_Blocks_lasting_forest : C8.Met P w K mg base 5 (He.ga K "Blocks") "lasting_forest" (sp_Blocks_lasting_forest K) []) (c_Blocks_memory_forest : C8.Met P w K mg base 5 (He.ga K "Blocks") "memory_forest" (sp_Blocks_memory_forest K) []) (c_Disk_queue : C8.Met P w K mg base 1 (He.ga K "Disk") "queue" (sp_Disk_queue K) []) : C8.Met P w K mg base 7 (He.ga K "Blocks") "charged" (sp_Blocks_charged K) [] := by
  refine met_go T.f_Blocks_charged T.k_Blocks T.me_Blocks_charged sc_Blocks_charged (fun _ _ _ _ _ _ us hl => match us, hl with | [_, _], _ => rfl) (fun _ _ _ _ h => h.1) fun cdv A outer s H vs Q E hr h => ?_
  have hu := hu_of hr
  refine ⟨_, (pss_cons (ps_set (i := 2) sc_Blocks_charged.nd rfl (by first | exact Or.inl rfl | exact Or.inr rfl) (pe_callTy call_dictD (by rfl) T.b_dict (by decide +kernel) (pa_cons (C8.pe_mt c_Blocks_lasting_forest hr (by decide) (pv 0) (pa_cons (pv 1) pa_nil)) pa_nil)))
    (pss_cons (ps_expr (pe_bm PySem.F.plainAttrs_dict PySem.F.slot_dict_update PySem.F.type_dict_update mt_dupd (pv 2) (pa_cons (C8.pe_mt c_Blocks_memory_forest hr (by decide) (pv 0) (pa_cons (pv 1) pa_nil)) pa_nil)))
    (pss_cons (ps_expr (pe_bm PySem.F.plainAttrs_dict PySem.F.slot_dict_update PySem.F.type_dict_update mt_dupd (pv 2) (pa_cons (C8.pe_mt c_Blocks_coming hr (by decide) (pv 0) (pa_cons (pv 1) pa_nil)) pa_nil)))
    (pss_cons (ps_for PassesOwn.never rfl (pi_list (C8.pe_mt0 c_Disk_queue hr (by decide) (pe_fldK K rfl (pv 0) rfl))) (pg_name (i := 3) sc_Blocks_charged.nd rfl (by first | exact Or.inl rfl | exact Or.inr rfl)) (pss_one (ps_if (pt_cmpR op_eq (pe_ix (show IxR _ (rIxT K) from ix_tup) (pv 3) (pe_un un_neg pe_int) (fun _ _ => rfl)) (pv 1) (nomark _)) (pss_one (ps_dput hu (pv 2) (pe_ix (show IxR _ (rIxT K) from ix_tup) (pv 3) pe_int (fun _ _ => rfl)) pe_bl rfl)) pss_nil)))
    (pss_one (ps_ret (pe_callB cr_sortedI (by rfl) T.b_sorted (by decide +kernel) (pa_cons (pe_lc (own := [("block", 4)]) rfl sc_Blocks_charged.nd (pi_keysL (pv 2)) (blkOk_by (own := [("block", 4)]) (N := n_Blocks_charged) (sc := defScope s_Blocks_charged) (by decide +kernel)) (fun _ _ _ _ _ => (pg_name (i := 4) sc_Blocks_charged.nd rfl (by first | exact Or.inl rfl | exact Or.inr rfl))) (fun _ _ _ _ _ => pts_one (pt_cmpR op_ge (pv 4) (C8.pe_gc (by rfl) T.g_ENVIRONMENTS) (nomark _))) (fun _ _ _ _ _ => (pv 4))) pa_nil)))))))), ?_⟩
  obtain ⟨_, A, n, s, e, L, M, C, rfl, B, I, he, q⟩ := h
  have hbas := I.bas
  have hn0 := B.disk.n0
  have hs : 200 ≤ sizeLine := by decide
  refine ⟨_, rfl, A.bl, _, _, rfl, B.ins, rfl, _, rfl, rfl, A, n, s, e, rfl, B, hbas, he, fun v H1 g1 hf => ?_⟩
  obtain ⟨p, kvs, rfl, hp0, hp1, hm1, hr1⟩ := hf.is (I.lf e he)
  refine ⟨p, kvs, rfl, .inl hp1, fun fd hfd => ?_⟩
  have g2 : Go [] H1 (upd H1 fd (.dK kvs)) := Go.new hfd
  have hf2 : upd H1 fd (.dK kvs) fd = some (.dK kvs) := upd_same
  have hfd0 : H fd = none := g1.free hfd
  have g12 := g1.trans g2
  generalize upd H1 fd (.dK kvs) = H2 at g2 hf2 g12 ⊢
  have d2 := DomIs.of hm1
  have B2 := B.go g12
  refine ⟨_, rfl, .inr (.inr (.inl ⟨rfl, .inl ⟨_, hf2⟩⟩)), _, rfl, A.bl, _, _, rfl, B2.ins, rfl, _, rfl, rfl, A, n, s, e, rfl, B2, hbas, he, fun v H3 g3 hf3 => ?_⟩
  obtain ⟨p3, kvs3, rfl, hp30, hp3, hm3, hr3⟩ := hf3.is (I.mf e he)
  have nf3 : fd ≠ p3 := ne_of_none hf2 hp30
  have hl2 := d2.len hn0.2 fun b ⟨x, hx⟩ => hr1 b x hx
  have hl3 := (DomIs.of hm3).len hn0.2 fun b ⟨x, hx⟩ => hr3 b x hx
  refine ⟨fd, p3, kvs, kvs3, rfl, rfl, nf3, g3.at hf2, hp3, by omega, ?_⟩
  have d4 := d2.merge (DomIs.of hm3)
  have g4 : Go [] H (upd H3 fd (.dK (mergeK kvs kvs3))) := (g12.trans g3).late hfd0
  have hf4 : upd H3 fd (.dK (mergeK kvs kvs3)) fd = some (.dK (mergeK kvs kvs3)) := upd_same
  generalize upd H3 fd (.dK (mergeK kvs kvs3)) = H4 at g4 hf4 ⊢
  generalize mergeK kvs kvs3 = kv4 at d4 hf4
  have B4 := B.go g4
  refine ⟨_, rfl, .inr (.inr (.inl ⟨rfl, .inl ⟨_, hf4⟩⟩)), _, rfl, A.bl, _, _, rfl, B4.ins, rfl, _, rfl, rfl, A, n, s, e, L, M, C, rfl, B4, I, he, fun p5 kvs5 H5 g5 hp50 hp5 hm5 => ?_⟩
  have nf5 : fd ≠ p5 := ne_of_none hf4 hp50
  have hl4 := d4.len hn0.2 fun b hb => hb.elim (fun ⟨x, hx⟩ => hr1 b x hx) fun ⟨x, hx⟩ => hr3 b x hx
  have hl5 := (DomIs.of hm5).len hn0.2 fun b ⟨x, hx⟩ => ch_rng I hn0.1 he (.inr (.inr (.inl ⟨x, hx⟩)))
  refine ⟨fd, p5, kv4, kvs5, rfl, rfl, nf5, g5.at hf4, hp5, by omega, ?_⟩
  have d6 := d4.merge (DomIs.of hm5)
  have g6 : Go [] H (upd H5 fd (.dK (mergeK kv4 kvs5))) := (g4.trans g5).late hfd0
  have hf6 : upd H5 fd (.dK (mergeK kv4 kvs5)) fd = some (.dK (mergeK kv4 kvs5)) := upd_same
  generalize upd H5 fd (.dK (mergeK kv4 kvs5)) = H6 at g6 hf6 ⊢
  generalize mergeK kv4 kvs5 = kv6 at d6 hf6
  have B6 := B.go g6
  refine ⟨_, rfl, _, _, _, _, _, rfl, B6.ins, T.k_Blocks, T.na_Blocks_disk, rfl, A.dk, _, _, rfl, B6.disk.ins, rfl, rfl, A.dk, A.dxd, A.he, A.wa, n, s.held, s.queue, rfl, B6.disk, fun pq ws H7 g7 hpq0 hpq hws => ⟨pq, rfl, ⟨_, .inl (.inl hpq)⟩, ?_⟩⟩
  have hwl := hws.length
  have npf : pq ≠ fd := (ne_of_none hf6 hpq0).symm
  refine for_it wk_list (fun i σ H' => ∃ x3 x4 kv, σ = [some (.ref A.bl), some (.int e), some (.ref fd), x3, x4] ∧ Go [] H H' ∧ H' pq = some (.lst ws) ∧ Paired (OpV K H') ws s.queue ∧ H' fd = some (.dK kv) ∧ DomIs kv fun b => (∃ v, L e b = some v) ∨ (∃ v, M e b = some v) ∨ (∃ v, C e b = some v) ∨ ∃ op ∈ s.queue.take i, op.env = e ∧ op.blk = b)
    ⟨_, _, kv6, rfl, g6.trans g7, hpq, hws, g7.at hf6, d6.congr fun b => by simp [or_assoc]⟩ (fun i σ H' _ p => by obtain ⟨_, _, _, _, _, h, _⟩ := p; exact .inl (.inl h)) ?_ ?_
  · rintro i x σ H0 H8 hi ⟨x3, x4, kv, rfl, g8, hpq8, hws8, hf8, d8⟩ ⟨rfl, hx⟩
    obtain ⟨o, ho, hov⟩ := paired_at hws8 hx
    have e1 : s.queue.take (i + 1) = s.queue.take i ++ [o] := by rw [List.take_add_one, ho] <;> rfl
    have hin : o ∈ s.queue := List.mem_of_getElem? ho
    have hkl := d8.len hn0.2 fun b hb => ch_rng I hn0.1 he (by
      rcases hb with h | h | h | ⟨op, h1, h2⟩
      · exact .inl h
      · exact .inr (.inl h)
      · exact .inr (.inr (.inl h))
      · exact .inr (.inr (.inr ⟨op, List.mem_of_mem_take h1, h2⟩)))
    obtain ⟨a, rfl, l, hal, hl1, hlm⟩ := opv_env hov
    refine ⟨_, rfl, 1, rfl, a, l, -1, _, rfl, rfl, hal, hlm, _, rfl, rfl, _, rfl, ?_⟩
    rw [dec_int]
    by_cases hoe : o.env = e
    · rw [hoe, beq_self_eq_true]
      refine ⟨_, rfl, _, rfl, a, l, 1, _, rfl, rfl, hal, hl1, fd, _, rfl, DPut.k (k := Sum.inl o.blk) hf8 (lt_sl (by omega)), ?_⟩
      have g9 : Go [fd] H8 (upd H8 fd (.dK (putK kv (.inl o.blk) (.bl true)))) := Go.put List.mem_cons_self (by rw [hf8]; trivial)
      refine ⟨_, _, _, rfl, g8.late hfd0, by rw [upd_ne npf]; exact hpq8, Paired.mapP hws8 fun _ _ z => z.go g9, upd_same, d8.put.congr fun b => ?_⟩
      rw [e1]
      simp only [List.mem_append, List.mem_singleton]
      constructor
      · rintro ((h | h | h | ⟨op, h1, h2⟩) | h)
        · exact .inl h
        · exact .inr (.inl h)
        · exact .inr (.inr (.inl h))
        · exact .inr (.inr (.inr ⟨op, .inl h1, h2⟩))
        · exact .inr (.inr (.inr ⟨o, .inr rfl, hoe, h.symm⟩))
      · rintro (h | h | h | ⟨op, h1 | h1, h2, h3⟩)
        · exact .inl (.inl h)
        · exact .inl (.inr (.inl h))
        · exact .inl (.inr (.inr (.inl h)))
        · exact .inl (.inr (.inr (.inr ⟨op, h1, h2, h3⟩)))
        · rw [h1] at h3
          exact .inr h3.symm
    · rw [beq_eq_false_iff_ne.mpr hoe]
      refine ⟨_, _, kv, rfl, g8, hpq8, hws8, hf8, d8.congr fun b => ?_⟩
      rw [e1]
      simp only [List.mem_append, List.mem_singleton]
      constructor
      · rintro (h | h | h | ⟨op, h1, h2⟩)
        · exact .inl h
        · exact .inr (.inl h)
        · exact .inr (.inr (.inl h))
        · exact .inr (.inr (.inr ⟨op, .inl h1, h2⟩))
      · rintro (h | h | h | ⟨op, h1 | h1, h2, h3⟩)
        · exact .inl h
        · exact .inr (.inl h)
        · exact .inr (.inr (.inl h))
        · exact .inr (.inr (.inr ⟨op, h1, h2, h3⟩))
        · rw [h1] at h2
          exact absurd h2 hoe
  · rintro σ H8 ⟨x3, x4, kv, rfl, g8, hpq8, hws8, hf8, d8⟩
    rw [hwl, List.take_length] at d8
    have d8 : DomIs kv (Ch s L M C e) := d8
    have hkl := d8.len hn0.2 fun b hb => ch_rng I hn0.1 he hb
    refine ⟨_, rfl, fd, kv, rfl, hf8, fun od => ?_⟩
    have g9 : Go [] H (upd H8 fd (.frz od (.dK kv))) := g8.late hfd0
    have hf9 : upd H8 fd (.frz od (.dK kv)) fd = some (.frz od (.dK kv)) := upd_same
    generalize upd H8 fd (.frz od (.dK kv)) = H9 at g9 hf9 ⊢
    refine lc_go (Z := []) (fun i acc _ => ∃ ns : List Int, acc = ns.map V.int ∧ ∀ b, b ∈ ns ↔ ((Sum.inl b : Key) ∈ (kv.take i).map (fun p : Key × V => p.1) ∧ 4 ≤ b)) wk_keys (le_sl (by omega)) no_z (fun H' g => g.at hf9) (fun _ _ => ⟨[], rfl, fun b => by simp⟩) (fun _ _ _ _ _ _ h _ => h) ?_ ?_
    · rintro i x acc H' hi ⟨k, v, hkv, rfl⟩ hl g ⟨ns, rfl, hmem⟩ K1 K2 kk1 kk2
      obtain ⟨b, rfl, hb⟩ := d8.at hkv
      obtain ⟨hnt, htk⟩ := nd_take d8.nd hkv
      refine ⟨rfl, _, rfl, b, 4, rfl, rfl, _, rfl, ?_⟩
      by_cases h4 : 4 ≤ b
      · rw [decide_eq_true h4]
        refine ⟨_, rfl, kk1 _ _ Go.refl ⟨ns ++ [b], by rw [List.map_append] <;> rfl, fun b' => ?_⟩⟩
        rw [htk]
        simp only [List.mem_append, List.mem_singleton, hmem]
        constructor
        · rintro (⟨z1, z2⟩ | rfl)
          · exact ⟨.inl z1, z2⟩
          · exact ⟨.inr rfl, h4⟩
        · rintro ⟨z1 | z1, z2⟩
          · exact .inl ⟨z1, z2⟩
          · exact .inr (Sum.inl.inj z1)
      · rw [decide_eq_false h4]
        refine kk2 _ Go.refl ⟨ns, rfl, fun b' => ?_⟩
        rw [htk]
        simp only [List.mem_append, List.mem_singleton, hmem]
        constructor
        · rintro ⟨z1, z2⟩
          exact ⟨.inl z1, z2⟩
        · rintro ⟨z1 | z1, z2⟩
          · exact ⟨z1, z2⟩
          · rw [Sum.inl.inj z1] at z2
            exact absurd z2 h4
    · rintro D acc H' hD g hacc hl ⟨ns, rfl, hmem⟩
      refine ⟨D, ns, rfl, .inl (.inl hacc), fun ns' p' hperm _ hp' => ?_⟩
      rw [List.length_map] at hl
      refine q p' ns' _ (g9.trans (g.trans (Go.new hp'))) (g9.free (g.free hp')) upd_same (fun b => ?_) (by rw [hperm.length_eq]; omega)
      rw [hperm.mem_iff, hmem, List.take_length, d8.mem]
      exact And.comm
end
def sp_Blocks_free (K : PySem.W.Frag) : Sp := fun vs H Q _ => vs.length = 1 ∧ ∃ A n s L M C, vs = [.ref A.bl] ∧ BlkAt K A H n s ∧ InvB n gdF s L M C ∧
  ∀ p (ns : List Int) H', Go [] H H' → H p = none → H' p = some (.lst (ns.map V.int)) → (∀ b, b ∈ ns ↔ (4 ≤ b ∧ b < n) ∧ ∀ e, Env e → ¬ Ch s L M C e b) → Q (.ref p) H'
section
variable {P : Program} {w : World} {K : PySem.W.Frag} {mg : Str → Option Value} {base : Heap}
theorem ok_Blocks_free (T : Txt w K mg) (c_Blocks_charged : C8.Met P w K mg base 7 (He.ga K "Blocks") "charged" (sp_Blocks_charged K) []) : C8.Met P w K mg base 8 (He.ga K "Blocks") "free" (sp_Blocks_free K) [] := by
  refine met_go T.f_Blocks_free T.k_Blocks T.me_Blocks_free sc_Blocks_free (fun _ _ _ _ _ _ us hl => match us, hl with | [_], _ => rfl) (fun _ _ _ _ h => h.1) fun cdv A outer s H vs Q E hr h => ?_
  have hu := hu_of hr
  refine ⟨_, (pss_cons (ps_set (i := 1) sc_Blocks_free.nd rfl (by first | exact Or.inl rfl | exact Or.inr rfl) pe_dnewK)
    (pss_cons (ps_for PassesOwn.never rfl (pi_range1 (by rfl) T.b_range (pa_cons (C8.pe_gc (by rfl) T.g_ENVIRONMENTS) pa_nil)) (pg_name (i := 2) sc_Blocks_free.nd rfl (by first | exact Or.inl rfl | exact Or.inr rfl)) (pss_one (ps_for PassesOwn.never rfl (pi_list (C8.pe_mt c_Blocks_charged hr (by decide) (pv 0) (pa_cons (pv 2) pa_nil))) (pg_name (i := 3) sc_Blocks_free.nd rfl (by first | exact Or.inl rfl | exact Or.inr rfl)) (pss_one (ps_dput hu (pv 1) (pv 3) pe_bl rfl)))))
    (pss_one (ps_ret (pe_lc (own := [("block", 3)]) rfl sc_Blocks_free.nd (pi_range2 (by rfl) T.b_range (pa_cons (C8.pe_gc (by rfl) T.g_ENVIRONMENTS) (pa_cons (pe_fldK K rfl (pe_fldK K rfl (pv 0) rfl) rfl) pa_nil))) (blkOk_by (own := [("block", 3)]) (N := n_Blocks_free) (sc := defScope s_Blocks_free) (by decide +kernel)) (fun _ _ _ _ _ => (pg_name (i := 3) sc_Blocks_free.nd rfl (by first | exact Or.inl rfl | exact Or.inr rfl))) (fun _ _ _ _ _ => pts_one (pt_cmp (pc_dnotin hu (pv 3) (pv 1)))) (fun _ _ _ _ _ => (pv 3))))))), ?_⟩
  obtain ⟨_, A, n, s, L, M, C, rfl, B, I, q⟩ := h
  have hbas := I.bas
  have hn0 := B.disk.n0
  refine fun td htd => ?_
  have g1 : Go [] H (upd H td (.dK [])) := Go.new htd
  have ht1 : upd H td (.dK []) td = some (.dK []) := upd_same
  generalize upd H td (.dK []) = H1 at g1 ht1 ⊢
  refine ⟨4, rfl, by decide, by decide, ?_⟩
  refine for_it wk_range (fun i σ H' => ∃ x2 x3 kv, σ = [some (.ref A.bl), some (.ref td), x2, x3] ∧ Go [] H H' ∧ H' td = some (.dK kv) ∧ DomIs kv fun b => ∃ e : Int, 0 ≤ e ∧ e < i ∧ 4 ≤ b ∧ Ch s L M C e b)
    ⟨_, _, [], rfl, g1, ht1, DomIs.nil.congr fun b => ⟨fun h => h.elim, fun ⟨e, h1, h2, _⟩ => by simp at h2; omega⟩⟩ (fun _ _ _ _ _ => trivial) ?_ ?_
  · rintro i x σ H0 H2 hi ⟨x2, x3, kv, rfl, g2, ht2, d2⟩ ⟨rfl, rfl⟩
    have hi4 : i < 4 := hi
    have he : Env (0 + (i : Int)) := ⟨by omega, by omega⟩
    have B2 := B.go g2
    refine ⟨_, rfl, A.bl, _, _, rfl, B2.ins, rfl, _, rfl, rfl, A, n, s, _, L, M, C, rfl, B2, I, he, fun p ns H3 g3 hp0 hp hmem hnl => ⟨p, rfl, ⟨_, .inl (.inl hp)⟩, ?_⟩⟩
    have npt : p ≠ td := (ne_of_none ht2 hp0).symm
    refine for_it wk_list (fun j σ H' => ∃ x3 kv, σ = [some (.ref A.bl), some (.ref td), some (.int (0 + (i : Int))), x3] ∧ Go [] H H' ∧ H' p = some (.lst (ns.map V.int)) ∧ H' td = some (.dK kv) ∧ DomIs kv fun b => (∃ e : Int, 0 ≤ e ∧ e < i ∧ 4 ≤ b ∧ Ch s L M C e b) ∨ b ∈ ns.take j)
      ⟨_, kv, rfl, g2.trans g3, hp, g3.at ht2, d2.congr fun b => by simp⟩ (fun i σ H' _ p => by obtain ⟨_, _, _, _, h, _⟩ := p; exact .inl (.inl h)) ?_ ?_
    · rintro j x σ H0' H4 hj ⟨x3, kv', rfl, g4, hp4, ht4, d4⟩ ⟨rfl, hx⟩
      obtain ⟨b, hb, rfl⟩ := map_at hx
      have hbm := (hmem b).mp (List.mem_of_getElem? hb)
      have hkl := d4.len hn0.2 fun b' hb' => by
        rcases hb' with ⟨e, h1, h2, h3, h4⟩ | h
        · exact ch_rng I hn0.1 ⟨h1, by omega⟩ h4
        · exact ch_rng I hn0.1 he ((hmem b').mp (List.mem_of_mem_take h)).2
      refine ⟨_, rfl, _, rfl, td, _, rfl, DPut.k (k := Sum.inl b) ht4 (lt_sl (by omega)), ?_⟩
      have e1 : ns.take (j + 1) = ns.take j ++ [b] := by rw [List.take_add_one, hb] <;> rfl
      refine ⟨_, _, rfl, g4.late htd, by rw [upd_ne npt]; exact hp4, upd_same, d4.put.congr fun b' => ?_⟩
      rw [e1]
      simp [or_assoc]
    · rintro σ H4 ⟨x3, kv', rfl, g4, hp4, ht4, d4⟩
      rw [List.length_map, List.take_length] at d4
      refine ⟨_, _, kv', rfl, g4, ht4, d4.congr fun b => ?_⟩
      rw [hmem]
      constructor
      · rintro (⟨e, h1, h2, h3⟩ | ⟨h1, h2⟩)
        · exact ⟨e, h1, by omega, h3⟩
        · exact ⟨0 + (i : Int), by omega, by omega, h1, h2⟩
      · rintro ⟨e, h1, h2, h3, h4⟩
        by_cases hei : e < i
        · exact .inl ⟨e, h1, hei, h3, h4⟩
        · have : e = 0 + (i : Int) := by omega
          rw [this] at h4
          exact .inr ⟨h3, h4⟩
  · rintro σ H2 ⟨x2, x3, kv, rfl, g2, ht2, d2⟩
    have B2 := B.go g2
    have d2 : DomIs kv fun b => ∃ e : Int, 0 ≤ e ∧ e < 4 ∧ 4 ≤ b ∧ Ch s L M C e b := d2
    refine ⟨_, rfl, _, _, _, _, _, rfl, B2.ins, T.k_Blocks, T.na_Blocks_disk, rfl, _, _, _, _, _, rfl, B2.disk.ins, T.k_Disk, T.na_Disk_blocks, rfl, 4, n, rfl, ⟨by decide, by decide, by omega, by omega⟩, ?_⟩
    refine lc_go (Z := []) (fun i acc _ => ∃ ns : List Int, acc = ns.map V.int ∧ ∀ b, b ∈ ns ↔ (4 ≤ b ∧ b < 4 + (i : Int) ∧ ¬ ∃ e : Int, 0 ≤ e ∧ e < 4 ∧ 4 ≤ b ∧ Ch s L M C e b)) wk_range (le_sl (by omega)) no_z (fun _ _ => trivial) (fun _ _ => ⟨[], rfl, fun b => ⟨fun h => (by cases h), fun ⟨h1, h2, _⟩ => by simp at h2; omega⟩⟩) (fun _ _ _ _ _ _ h _ => h) ?_ ?_
    · rintro i x acc H3 hi hx hl g3 ⟨ns, rfl, hmem⟩ K1 K2 kk1 kk2
      subst hx
      refine ⟨rfl, _, rfl, _, rfl, td, _, rfl, DGet.k (k := Sum.inl (4 + (i : Int))) (g3.at ht2), _, rfl, ?_⟩
      cases hc : (valV kv (Sum.inl (4 + (i : Int)))).isSome with
      | true =>
        have hP := d2.isS.mp hc
        refine kk2 _ Go.refl ⟨ns, rfl, fun b => ?_⟩
        rw [hmem]
        constructor
        · rintro ⟨h1, h2, h3⟩
          exact ⟨h1, by omega, h3⟩
        · rintro ⟨h1, h2, h3⟩
          refine ⟨h1, ?_, h3⟩
          by_cases hbi : b = 4 + (i : Int)
          · rw [hbi] at h3
            exact absurd hP h3
          · omega
      | false =>
        have hP : ¬ ∃ e : Int, 0 ≤ e ∧ e < 4 ∧ 4 ≤ (4 + (i : Int)) ∧ Ch s L M C e (4 + (i : Int)) := fun z => by
          rw [d2.isS.mpr z] at hc
          cases hc
        refine ⟨_, rfl, kk1 _ _ Go.refl ⟨ns ++ [4 + (i : Int)], by rw [List.map_append] <;> rfl, fun b => ?_⟩⟩
        simp only [List.mem_append, List.mem_singleton, hmem]
        constructor
        · rintro (⟨h1, h2, h3⟩ | rfl)
          · exact ⟨h1, by omega, h3⟩
          · exact ⟨by omega, by omega, hP⟩
        · rintro ⟨h1, h2, h3⟩
          by_cases hbi : b = 4 + (i : Int)
          · exact .inr hbi
          · exact .inl ⟨h1, by omega, h3⟩
    · rintro D acc H3 hD g3 hacc hl ⟨ns, rfl, hmem⟩
      refine q D ns _ (g2.trans g3) (g2.free hD) hacc fun b => ?_
      rw [hmem]
      constructor
      · rintro ⟨h1, h2, h3⟩
        exact ⟨⟨h1, by omega⟩, fun e he hc => h3 ⟨e, he.1, he.2, h1, hc⟩⟩
      · rintro ⟨⟨h1, h2⟩, h3⟩
        exact ⟨h1, by omega, fun ⟨e, z1, z2, _, z4⟩ => h3 e ⟨z1, z2⟩ z4⟩
end
theorem sum_nn : ∀ {zs : List Int}, (∀ z ∈ zs, 0 ≤ z) → 0 ≤ zs.sum
  | [], _ => by simp
  | a :: r, h => by
    have h1 := h a List.mem_cons_self
    have h2 := sum_nn fun z hz => h z (List.mem_cons_of_mem _ hz)
    rw [List.sum_cons]
    omega
def sp_Blocks_may_reserve (K : PySem.W.Frag) : Sp := fun vs H Q _ => vs.length = 2 ∧ ∃ A n s e L M C, vs = [.ref A.bl, .int e] ∧ BlkAt K A H n s ∧ InvB n gdF s L M C ∧ Env e ∧
  ∀ r H', Go [] H H' → (r = true → ∃ b, (4 ≤ b ∧ b < n) ∧ ∀ e, Env e → ¬ Ch s L M C e b) → Q (.bl r) H'
section
variable {P : Program} {w : World} {K : PySem.W.Frag} {mg : Str → Option Value} {base : Heap}
theorem ok_Blocks_may_reserve (T : Txt w K mg) (c_Blocks_charged : C8.Met P w K mg base 7 (He.ga K "Blocks") "charged" (sp_Blocks_charged K) []) (c_Blocks_free : C8.Met P w K mg base 8 (He.ga K "Blocks") "free" (sp_Blocks_free K) []) : C8.Met P w K mg base 9 (He.ga K "Blocks") "may_reserve" (sp_Blocks_may_reserve K) [] := by
  refine met_go T.f_Blocks_may_reserve T.k_Blocks T.me_Blocks_may_reserve sc_Blocks_may_reserve (fun _ _ _ _ _ _ us hl => match us, hl with | [_, _], _ => rfl) (fun _ _ _ _ h => h.1) fun cdv A outer s H vs Q E hr h => ?_
  refine ⟨_, (pss_cons (ps_set (i := 2) sc_Blocks_may_reserve.nd rfl (by first | exact Or.inl rfl | exact Or.inr rfl) (pe_lc (own := [("other", 4)]) rfl sc_Blocks_may_reserve.nd (pi_range1 (by rfl) T.b_range (pa_cons (C8.pe_gc (by rfl) T.g_ENVIRONMENTS) pa_nil)) (blkOk_by (own := [("other", 4)]) (N := n_Blocks_may_reserve) (sc := defScope s_Blocks_may_reserve) (by decide +kernel)) (fun _ _ _ _ _ => (pg_name (i := 4) sc_Blocks_may_reserve.nd rfl (by first | exact Or.inl rfl | exact Or.inr rfl))) (fun _ _ _ _ _ => pts_nil) (fun _ _ _ _ _ => (pe_callB (show CallR _ _ (rLen K) from call_len) (by rfl) T.b_len PySem.boot_len (pa_cons (C8.pe_mt c_Blocks_charged hr (by decide) (pv 0) (pa_cons (pv 4) pa_nil)) pa_nil)))))
    (pss_cons (ps_set (i := 3) sc_Blocks_may_reserve.nd rfl (by first | exact Or.inl rfl | exact Or.inr rfl) (pe_callB (show CallR _ _ (rLen K) from call_len) (by rfl) T.b_len PySem.boot_len (pa_cons (C8.pe_mt0 c_Blocks_free hr (by decide) (pv 0)) pa_nil)))
    (pss_cons (ps_if (pt_cmpR op_lt (pe_ix (show IxR _ (rIxL K) from ix_list) (pv 2) (pv 1) (fun _ _ => rfl)) (pe_ix (show IxR _ (rIxL K) from ix_list) (pe_fldK K rfl (pv 0) rfl) (pv 1) (fun _ _ => rfl)) (nomark _)) (pss_one (ps_ret (pe_cmpR op_gt (pv 3) pe_int (nomark _)))) pss_nil)
    (pss_one (ps_ret (pe_cmpR op_gt (pv 3) (pe_callB (cr_sum rfl) (by rfl) T.b_sum (by decide +kernel) (pa_cons (pe_lc (own := [("other", 4)]) rfl sc_Blocks_may_reserve.nd (pi_range1 (by rfl) T.b_range (pa_cons (C8.pe_gc (by rfl) T.g_ENVIRONMENTS) pa_nil)) (blkOk_by (own := [("other", 4)]) (N := n_Blocks_may_reserve) (sc := defScope s_Blocks_may_reserve) (by decide +kernel)) (fun _ _ _ _ _ => (pg_name (i := 4) sc_Blocks_may_reserve.nd rfl (by first | exact Or.inl rfl | exact Or.inr rfl))) (fun _ _ _ _ _ => pts_nil) (fun _ _ _ _ _ => (pe_callB (call_max2 rfl) (by rfl) T.b_max (by decide +kernel) (pa_cons pe_int (pa_cons (pe_op op_sub (pe_ix (show IxR _ (rIxL K) from ix_list) (pe_fldK K rfl (pv 0) rfl) (pv 4) (fun _ _ => rfl)) (pe_ix (show IxR _ (rIxL K) from ix_list) (pv 2) (pv 4) (fun _ _ => rfl))) pa_nil))))) pa_nil)) (nomark _))))))), ?_⟩
  obtain ⟨_, A, n, s, e, L, M, C, rfl, B, I, he, q⟩ := h
  have hbas := I.bas
  have hn0 := B.disk.n0
  obtain ⟨he0, he4⟩ := he
  refine ⟨4, rfl, by decide, by decide, ?_⟩
  refine lc_go (Z := []) (fun i acc _ => ∃ ms : List Int, acc = ms.map V.int ∧ ms.length = i) wk_range (by decide) no_z (fun _ _ => trivial) (fun _ _ => ⟨[], rfl, rfl⟩) (fun _ _ _ _ _ _ h _ => h) ?_ ?_
  · rintro i x acc H3 hi hx hl g3 ⟨ms, rfl, hml⟩ K1 K2 kk1 kk2
    subst hx
    have hi4 : i < 4 := hi
    have B3 := B.go g3
    refine ⟨rfl, _, rfl, A.bl, _, _, rfl, B3.ins, rfl, _, rfl, rfl, A, n, s, _, L, M, C, rfl, B3, I, ⟨by omega, by omega⟩, fun p ns H4 g4 hp0 hp hmem hnl => ?_⟩
    refine ⟨_, ns.length, rfl, .inl ⟨_, .inl (.inl hp), by rw [List.length_map]⟩, kk1 _ _ g4 ⟨ms ++ [(ns.length : Int)], by rw [List.map_append] <;> rfl, by rw [List.length_append, hml] <;> rfl⟩⟩
  rintro ml acc H1 hml0 g1 hml hl ⟨ms, rfl, hms⟩
  have hms : ms.length = 4 := hms
  have B1 := B.go g1
  have het : e.toNat < ms.length := by omega
  have hm : ∀ (j : Int), 0 ≤ j → j < 4 → ∃ m, atI (ms.map V.int) j = some (.int m) := fun j h0 h4 => by
    have hj : j.toNat < ms.length := by omega
    exact ⟨_, atI_of h0 (map_get (List.getElem?_eq_getElem hj))⟩
  have hsh : ∀ (j : Int), 0 ≤ j → j < 4 → atI [V.int 5, .int 5, .int 5, .int 5] j = some (.int 5) := fun j h0 h4 => by
    rcases (by omega : j = 0 ∨ j = 1 ∨ j = 2 ∨ j = 3) with h | h | h | h <;> subst h <;> rfl
  refine ⟨_, rfl, A.bl, _, _, rfl, B1.ins, rfl, rfl, A, n, s, L, M, C, rfl, B1, I, fun p ns H2 g2 hp0 hp hmem => ?_⟩
  refine ⟨_, ns.length, rfl, .inl ⟨_, .inl (.inl hp), by rw [List.length_map]⟩, ?_⟩
  have B2 := B1.go g2
  have hml2 := g2.at hml
  obtain ⟨m, hme⟩ := hm e he0 he4
  have hpos : (0 : Int) < (ns.length : Int) → ∃ b, (4 ≤ b ∧ b < n) ∧ ∀ e, Env e → ¬ Ch s L M C e b := fun h => by
    cases ns with
    | nil => simp at h
    | cons b r => exact ⟨b, (hmem b).mp List.mem_cons_self⟩
  refine ⟨_, rfl, _, rfl, ml, _, _, _, rfl, rfl, .inl (.inl hml2), hme, _, rfl, _, _, _, _, _, rfl, B2.ins, T.k_Blocks, T.na_Blocks_shares, rfl, _, rfl, A.sh, _, _, _, rfl, rfl, .inl (.inl B2.shL), hsh e he0 he4, _, _, rfl, rfl, _, rfl, ?_⟩
  by_cases hlt : m < 5
  · rw [decide_eq_true hlt]
    exact ⟨_, rfl, _, 0, rfl, rfl, q _ _ (g1.trans g2) fun h => hpos (of_decide_eq_true h)⟩
  · rw [decide_eq_false hlt]
    refine ⟨_, rfl, 4, rfl, by decide, by decide, ?_⟩
    refine lc_go (Z := []) (fun i acc _ => ∃ zs : List Int, acc = zs.map V.int ∧ ∀ z ∈ zs, 0 ≤ z) wk_range (by decide) no_z (fun _ _ => trivial) (fun _ _ => ⟨[], rfl, fun z h => by cases h⟩) (fun _ _ _ _ _ _ h _ => h) ?_ ?_
    · rintro i x acc H3 hi hx hl g3 ⟨zs, rfl, hz⟩ K1 K2 kk1 kk2
      subst hx
      have hi4 : i < 4 := hi
      obtain ⟨mi, hmi⟩ := hm (0 + (i : Int)) (by omega) (by omega)
      have B3 := B2.go g3
      refine ⟨rfl, _, rfl, _, _, _, _, _, rfl, B3.ins, T.k_Blocks, T.na_Blocks_shares, rfl, _, rfl, A.sh, _, _, _, rfl, rfl, .inl (.inl B3.shL), hsh _ (by omega) (by omega), _, rfl, _, rfl, ml, _, _, _, rfl, rfl, .inl (.inl (g3.at hml2)), hmi, _, _, rfl, rfl, 0, _, rfl, kk1 _ _ Go.refl ⟨zs ++ [_], by rw [List.map_append] <;> rfl, fun z h => ?_⟩⟩
      rcases List.mem_append.mp h with h | h
      · exact hz z h
      · rw [List.mem_singleton.mp h]
        split <;> omega
    · rintro D acc H3 hD g3 hacc hl2 ⟨zs, rfl, hz⟩
      refine ⟨D, zs, rfl, .inl (.inl hacc), _, _, rfl, rfl, q _ _ (g1.trans (g2.trans g3)) fun h => hpos ?_⟩
      have h2 := of_decide_eq_true h
      have h3 : 0 ≤ zs.sum := sum_nn hz
      omega
end

end SH

set_option Elab.async false
set_option linter.all false
set_option maxRecDepth 100000
set_option maxHeartbeats 4000000
namespace SH
open PySem PySem.Spec PyProof.Rows L2
/-! ### stores to the state -/
def Ad.mut (A : Ad) : List Addr := [A.he, A.wa, A.bu, A.ke, A.fr]
section
variable {K : PySem.W.Frag} {A : Ad} {H H' : Hp} {n : Int} {s : St}
theorem BlkAt.bu_ne (B : BlkAt K A H n s) : ∀ a ∈ [A.bl, A.dk, A.he, A.wa, A.ty, A.kn, A.mks, A.sh, A.ke, A.fr], a ≠ A.bu := by
  obtain ⟨kv, k1, _⟩ := B.bufD
  obtain ⟨hs, h1, _⟩ := B.disk.heldL
  obtain ⟨ws, w1, _⟩ := B.disk.waL
  obtain ⟨ms, t⟩ := B.types
  obtain ⟨ks, t1, _⟩ := t.knL
  have nd := B.nd
  simp only [List.nodup_cons, List.mem_cons, List.not_mem_nil, or_false, not_or] at nd
  intro a ha
  simp only [List.mem_cons, List.not_mem_nil, or_false] at ha
  rcases ha with e | e | e | e | e | e | e | e | e | e <;> subst e
  · exact ne_of B.ins k1 (by simp)
  · exact ne_of B.disk.ins k1 (by simp)
  · exact ne_of h1 k1 (by simp)
  · exact ne_of w1 k1 (by simp)
  · exact ne_of t.ins k1 (by simp)
  · exact ne_of t1 k1 (by simp)
  · exact ne_of t.mkL k1 (by simp)
  · exact ne_of B.shL k1 (by simp)
  · exact fun z => nd.1.1 z.symm
  · exact fun z => nd.1.2 z.symm
theorem BlkAt.ke_ne (B : BlkAt K A H n s) : ∀ a ∈ [A.bl, A.dk, A.he, A.wa, A.ty, A.kn, A.mks, A.sh, A.bu, A.fr], a ≠ A.ke := by
  obtain ⟨kv, k1, _⟩ := B.keptD
  obtain ⟨hs, h1, _⟩ := B.disk.heldL
  obtain ⟨ws, w1, _⟩ := B.disk.waL
  obtain ⟨ms, t⟩ := B.types
  obtain ⟨ks, t1, _⟩ := t.knL
  have nd := B.nd
  simp only [List.nodup_cons, List.mem_cons, List.not_mem_nil, or_false, not_or] at nd
  intro a ha
  simp only [List.mem_cons, List.not_mem_nil, or_false] at ha
  rcases ha with e | e | e | e | e | e | e | e | e | e <;> subst e
  · exact ne_of B.ins k1 (by simp)
  · exact ne_of B.disk.ins k1 (by simp)
  · exact ne_of h1 k1 (by simp)
  · exact ne_of w1 k1 (by simp)
  · exact ne_of t.ins k1 (by simp)
  · exact ne_of t1 k1 (by simp)
  · exact ne_of t.mkL k1 (by simp)
  · exact ne_of B.shL k1 (by simp)
  · exact nd.1.1
  · exact fun z => nd.2.1 z.symm
theorem BlkAt.fr_ne (B : BlkAt K A H n s) : ∀ a ∈ [A.bl, A.dk, A.he, A.wa, A.ty, A.kn, A.mks, A.sh, A.bu, A.ke], a ≠ A.fr := by
  obtain ⟨kv, k1, _⟩ := B.freshD
  obtain ⟨hs, h1, _⟩ := B.disk.heldL
  obtain ⟨ws, w1, _⟩ := B.disk.waL
  obtain ⟨ms, t⟩ := B.types
  obtain ⟨ks, t1, _⟩ := t.knL
  have nd := B.nd
  simp only [List.nodup_cons, List.mem_cons, List.not_mem_nil, or_false, not_or] at nd
  intro a ha
  simp only [List.mem_cons, List.not_mem_nil, or_false] at ha
  rcases ha with e | e | e | e | e | e | e | e | e | e <;> subst e
  · exact ne_of B.ins k1 (by simp)
  · exact ne_of B.disk.ins k1 (by simp)
  · exact ne_of h1 k1 (by simp)
  · exact ne_of w1 k1 (by simp)
  · exact ne_of t.ins k1 (by simp)
  · exact ne_of t1 k1 (by simp)
  · exact ne_of t.mkL k1 (by simp)
  · exact ne_of B.shL k1 (by simp)
  · exact nd.1.2
  · exact nd.2.1
theorem BlkAt.setBu (B : BlkAt K A H n s) {kvs : List (Key × V)} {f : Int → Option (Int × Wd)} (m : MapR kvs f (BuV K H)) : Go [A.bu] H (upd H A.bu (.dK kvs)) ∧ BlkAt K A (upd H A.bu (.dK kvs)) n { s with buf := f } := by
  obtain ⟨kv, k1, _⟩ := B.bufD
  have g : Go [A.bu] H (upd H A.bu (.dK kvs)) := Go.put List.mem_cons_self (by rw [k1]; trivial)
  have ne := B.bu_ne
  have nz : ∀ a ∈ [A.bl, A.dk, A.he, A.wa, A.ty, A.kn, A.mks, A.sh, A.ke, A.fr], a ∉ [A.bu] := fun a h => by simpa using ne a h
  refine ⟨g, ?_, B.disk.go g fun a h => nz a (by simp at h ⊢; rcases h with h | h | h <;> simp [h]), ?_, ⟨kvs, upd_same, m.mono fun _ _ _ _ z => z.go g⟩, ?_, ?_, ?_, B.nd, B.nl⟩
  · exact g.fr _ _ B.ins (nz _ (by simp))
  · obtain ⟨ms, t⟩ := B.types
    exact ⟨ms, t.go g fun a h => nz a (by simp at h ⊢; rcases h with h | h | h <;> simp [h])⟩
  · obtain ⟨kv, k1, k2⟩ := B.keptD
    exact ⟨kv, g.fr _ _ k1 (nz _ (by simp)), k2.mono fun _ _ _ _ z => z.go g⟩
  · obtain ⟨kv, k1, k2⟩ := B.freshD
    exact ⟨kv, g.fr _ _ k1 (nz _ (by simp)), k2⟩
  · exact g.fr _ _ B.shL (nz _ (by simp))
theorem BlkAt.setKe (B : BlkAt K A H n s) {kvs : List (Key × V)} {f : Int → Option (Int × Option Int)} (m : MapR kvs f (KeV K H)) : Go [A.ke] H (upd H A.ke (.dK kvs)) ∧ BlkAt K A (upd H A.ke (.dK kvs)) n { s with kept := f } := by
  obtain ⟨kv, k1, _⟩ := B.keptD
  have g : Go [A.ke] H (upd H A.ke (.dK kvs)) := Go.put List.mem_cons_self (by rw [k1]; trivial)
  have ne := B.ke_ne
  have nz : ∀ a ∈ [A.bl, A.dk, A.he, A.wa, A.ty, A.kn, A.mks, A.sh, A.bu, A.fr], a ∉ [A.ke] := fun a h => by simpa using ne a h
  refine ⟨g, ?_, B.disk.go g fun a h => nz a (by simp at h ⊢; rcases h with h | h | h <;> simp [h]), ?_, ?_, ⟨kvs, upd_same, m.mono fun _ _ _ _ z => z.go g⟩, ?_, ?_, B.nd, B.nl⟩
  · exact g.fr _ _ B.ins (nz _ (by simp))
  · obtain ⟨ms, t⟩ := B.types
    exact ⟨ms, t.go g fun a h => nz a (by simp at h ⊢; rcases h with h | h | h <;> simp [h])⟩
  · obtain ⟨kv, k1, k2⟩ := B.bufD
    exact ⟨kv, g.fr _ _ k1 (nz _ (by simp)), k2.mono fun _ _ _ _ z => z.go g⟩
  · obtain ⟨kv, k1, k2⟩ := B.freshD
    exact ⟨kv, g.fr _ _ k1 (nz _ (by simp)), k2⟩
  · exact g.fr _ _ B.shL (nz _ (by simp))
theorem BlkAt.setFr (B : BlkAt K A H n s) {kvs : List (Key × V)} {f : Int → Bool} (m : MapR kvs (frM f) FrV) : Go [A.fr] H (upd H A.fr (.dK kvs)) ∧ BlkAt K A (upd H A.fr (.dK kvs)) n { s with fresh := f } := by
  obtain ⟨kv, k1, _⟩ := B.freshD
  have g : Go [A.fr] H (upd H A.fr (.dK kvs)) := Go.put List.mem_cons_self (by rw [k1]; trivial)
  have ne := B.fr_ne
  have nz : ∀ a ∈ [A.bl, A.dk, A.he, A.wa, A.ty, A.kn, A.mks, A.sh, A.bu, A.ke], a ∉ [A.fr] := fun a h => by simpa using ne a h
  refine ⟨g, ?_, B.disk.go g fun a h => nz a (by simp at h ⊢; rcases h with h | h | h <;> simp [h]), ?_, ?_, ?_, ⟨kvs, upd_same, m⟩, ?_, B.nd, B.nl⟩
  · exact g.fr _ _ B.ins (nz _ (by simp))
  · obtain ⟨ms, t⟩ := B.types
    exact ⟨ms, t.go g fun a h => nz a (by simp at h ⊢; rcases h with h | h | h <;> simp [h])⟩
  · obtain ⟨kv, k1, k2⟩ := B.bufD
    exact ⟨kv, g.fr _ _ k1 (nz _ (by simp)), k2.mono fun _ _ _ _ z => z.go g⟩
  · obtain ⟨kv, k1, k2⟩ := B.keptD
    exact ⟨kv, g.fr _ _ k1 (nz _ (by simp)), k2.mono fun _ _ _ _ z => z.go g⟩
  · exact g.fr _ _ B.shL (nz _ (by simp))
/-- the disk has changed -/
theorem BlkAt.newDisk (B : BlkAt K A H n s) (g : Go [A.he, A.wa] H H') {held : Int → Wd} {q : List Op} (D : DiskAt K A.dk A.dxd A.he A.wa H' n held q) : BlkAt K A H' n { s with held := held, queue := q } := by
  obtain ⟨hs, h1, _⟩ := B.disk.heldL
  obtain ⟨ws, w1, _⟩ := B.disk.waL
  obtain ⟨ms, t⟩ := B.types
  obtain ⟨ks, t1, _⟩ := t.knL
  have nl := B.nl
  simp only [List.nodup_cons, List.mem_cons, List.not_mem_nil, or_false, not_or] at nl
  have nz : ∀ {a : Addr} {o : HO}, H a = some o → (∀ l, o ≠ .lst l) → a ∉ [A.he, A.wa] := fun {a o} ha hl m => by
    simp only [List.mem_cons, List.not_mem_nil, or_false] at m
    rcases m with e | e <;> subst e
    · rw [h1] at ha
      exact hl hs (Option.some.inj ha).symm
    · rw [w1] at ha
      exact hl ws (Option.some.inj ha).symm
  refine ⟨g.fr _ _ B.ins (nz B.ins (by simp)), D, ⟨ms, ⟨g.fr _ _ t.ins (nz t.ins (by simp)), ?_, ?_, t.ne⟩⟩, ?_, ?_, ?_, ?_, B.nd, B.nl⟩
  · obtain ⟨ks, t1, t2⟩ := t.knL
    refine ⟨ks, g.fr _ _ t1 ?_, Paired.mapP t2 fun _ _ z => z.go g⟩
    simp only [List.mem_cons, List.not_mem_nil, or_false, not_or]
    exact ⟨fun z => nl.1.2.2.1 z.symm, fun z => nl.2.1.2.1 z.symm⟩
  · refine g.fr _ _ t.mkL ?_
    simp only [List.mem_cons, List.not_mem_nil, or_false, not_or]
    exact ⟨fun z => nl.1.2.2.2 z.symm, fun z => nl.2.1.2.2 z.symm⟩
  · obtain ⟨kv, k1, k2⟩ := B.bufD
    exact ⟨kv, g.fr _ _ k1 (nz k1 (by simp)), k2.mono fun _ _ _ _ z => z.go g⟩
  · obtain ⟨kv, k1, k2⟩ := B.keptD
    exact ⟨kv, g.fr _ _ k1 (nz k1 (by simp)), k2.mono fun _ _ _ _ z => z.go g⟩
  · obtain ⟨kv, k1, k2⟩ := B.freshD
    exact ⟨kv, g.fr _ _ k1 (nz k1 (by simp)), k2⟩
  · refine g.fr _ _ B.shL ?_
    simp only [List.mem_cons, List.not_mem_nil, or_false, not_or]
    exact ⟨fun z => nl.1.2.1 z.symm, fun z => nl.2.1.1 z.symm⟩
end
def sp_Blocks_owns_something (K : PySem.W.Frag) : Sp := fun vs H Q _ => vs.length = 3 ∧ ∃ A n s e b L M C, vs = [.ref A.bl, .int e, .int b] ∧ BlkAt K A H n s ∧ InvB n gdF s L M C ∧ Env e ∧
  ∀ r H', Go [] H H' → (r = true ↔ ∃ c k, M e c = some (some b, k)) → Q (.bl r) H'
section
variable {P : Program} {w : World} {K : PySem.W.Frag} {mg : Str → Option Value} {base : Heap}
theorem ok_Blocks_owns_something (T : Txt w K mg) (c_Blocks_memory_forest : C8.Met P w K mg base 5 (He.ga K "Blocks") "memory_forest" (sp_Blocks_memory_forest K) []) : C8.Met P w K mg base 6 (He.ga K "Blocks") "_owns_something" (sp_Blocks_owns_something K) [] := by
  refine met_go T.f_Blocks_owns_something T.k_Blocks T.me_Blocks_owns_something sc_Blocks_owns_something (fun _ _ _ _ _ _ us hl => match us, hl with | [_, _, _], _ => rfl) (fun _ _ _ _ h => h.1) fun cdv A outer s H vs Q E hr h => ?_
  have hu := hu_of hr
  refine ⟨_, (pss_cons (ps_set (i := 3) sc_Blocks_owns_something.nd rfl (by first | exact Or.inl rfl | exact Or.inr rfl) (C8.pe_mt c_Blocks_memory_forest hr (by decide) (pv 0) (pa_cons (pv 1) pa_nil)))
    (pss_one (ps_ret (pe_callB (cr_any rfl) (by rfl) T.b_any (by decide +kernel) (pa_cons (pe_lc (own := [("child", 4)]) rfl sc_Blocks_owns_something.nd (pi_keysL (pv 3)) (blkOk_by (own := [("child", 4)]) (N := n_Blocks_owns_something) (sc := defScope s_Blocks_owns_something) (by decide +kernel)) (fun _ _ _ _ _ => (pg_name (i := 4) sc_Blocks_owns_something.nd rfl (by first | exact Or.inl rfl | exact Or.inr rfl))) (fun _ _ _ _ _ => pts_nil) (fun _ _ _ _ _ => (pe_cmpR op_eq (pe_ix (show IxR _ (rIxT K) from ix_tup) (pe_dget hu (pv 3) (pv 4) (fun _ _ => rfl)) pe_int (fun _ _ => rfl)) (pv 2) (nomark _)))) pa_nil))))), ?_⟩
  obtain ⟨_, A, n, s, e, b, L, M, C, rfl, B, I, he, q⟩ := h
  have hbas := I.bas
  have hn0 := B.disk.n0
  refine ⟨_, rfl, A.bl, _, _, rfl, B.ins, rfl, _, rfl, rfl, A, n, s, e, rfl, B, hbas, he, fun v H1 g1 hf => ?_⟩
  obtain ⟨p, kvs, rfl, hp0, hp1, hm1, hr1⟩ := hf.is (I.mf e he)
  have hkl : kvs.length ≤ 64 := hm1.len (n := 64) fun b x hb => by
    have := hr1 b x hb
    omega
  refine ⟨_, rfl, p, kvs, rfl, hp1, fun od => ?_⟩
  have g2 : Go [] H (upd H1 p (.frz od (.dK kvs))) := g1.late hp0
  have gp : Go [p] H1 (upd H1 p (.frz od (.dK kvs))) := Go.lock0 hp1 trivial
  have hp2 : upd H1 p (.frz od (.dK kvs)) p = some (.frz od (.dK kvs)) := upd_same
  generalize upd H1 p (.frz od (.dK kvs)) = H2 at g2 gp hp2 ⊢
  refine lc_go (Z := []) (fun i acc _ => ∃ bs : List Bool, acc = bs.map V.bl ∧ (bs.any id = true ↔ ∃ c k, (Sum.inl c : Key) ∈ (kvs.take i).map (fun p : Key × V => p.1) ∧ M e c = some (some b, k))) wk_keys (le_sl (by omega)) no_z (fun H' g => g.at hp2) (fun _ _ => ⟨[], rfl, by simp⟩) (fun _ _ _ _ _ _ h _ => h) ?_ ?_
  · rintro i x acc H' hi ⟨k, v, hkv, rfl⟩ hl g ⟨bs, rfl, hbs⟩ K1 K2 kk1 kk2
    obtain ⟨c, x, rfl, hc, t, rfl, ht⟩ := hm1.at hkv
    obtain ⟨hnt, htk⟩ := nd_take hm1.nd hkv
    have hv : valV kvs (Sum.inl c) = some (V.ref t) := val_nodup hm1.nd (Sum.inl c, V.ref t) (List.mem_of_getElem? hkv)
    have dg : DGet H' p (kV (Sum.inl c)) (some (V.ref t)) := .inl ⟨kvs, Sum.inl c, .inr ⟨od, g.at hp2⟩, rfl, hv.symm⟩
    have ht' : SqT K H' t [oV x.1, oV x.2] := .inl (.inl (g.tk _ _ (gp.tk _ _ ht)))
    have sc : scal (oV x.1) (.int b) = true := by cases x.1 <;> rfl
    refine ⟨rfl, _, rfl, _, rfl, p, _, rfl, dg, t, _, 0, _, rfl, rfl, ht', rfl, _, rfl, sc, kk1 _ _ Go.refl ⟨bs ++ [decide (oV x.1 = .int b)], by rw [List.map_append] <;> rfl, ?_⟩⟩
    rw [List.any_append, htk, Bool.or_eq_true, hbs]
    simp only [List.any_cons, List.any_nil, Bool.or_false, id, decide_eq_true_eq, List.mem_append, List.mem_singleton]
    constructor
    · rintro (⟨c', k', z1, z2⟩ | z)
      · exact ⟨c', k', .inl z1, z2⟩
      · refine ⟨c, x.2, .inr rfl, ?_⟩
        rw [hc]
        have : x.1 = some b := oV_inj (b := some b) z
        rw [← this]
    · rintro ⟨c', k', z1 | z1, z2⟩
      · exact .inl ⟨c', k', z1, z2⟩
      · have ec : c' = c := Sum.inl.inj z1
        rw [ec, hc] at z2
        refine .inr ?_
        rw [Option.some.inj z2]
        rfl
  · rintro D acc H' hD g hacc hl ⟨bs, rfl, hbs⟩
    refine ⟨D, bs, rfl, .inl (.inl hacc), q _ _ (g2.trans g) ?_⟩
    rw [hbs, List.take_length]
    constructor
    · rintro ⟨c, k, _, z⟩
      exact ⟨c, k, z⟩
    · rintro ⟨c, k, z⟩
      obtain ⟨v, hv⟩ := hm1.cpl c _ z
      exact ⟨c, k, valV_in hv, z⟩
end
def sp_Blocks_types_in (K : PySem.W.Frag) : Sp := fun vs H Q _ => vs.length = 2 ∧ ∃ A n s e L M C, vs = [.ref A.bl, .int e] ∧ BlkAt K A H n s ∧ InvB n gdF s L M C ∧ Env e ∧
  ∀ p kvs H', Go [] H H' → H p = none → H' p = some (.dK kvs) → MapR kvs (fun b => (M e b).map Prod.snd) (fun k v => v = oV k) → Q (.ref p) H'
section
variable {P : Program} {w : World} {K : PySem.W.Frag} {mg : Str → Option Value} {base : Heap}
theorem ok_Blocks_types_in (T : Txt w K mg) (c_Blocks_memory_forest : C8.Met P w K mg base 5 (He.ga K "Blocks") "memory_forest" (sp_Blocks_memory_forest K) []) : C8.Met P w K mg base 6 (He.ga K "Blocks") "_types_in" (sp_Blocks_types_in K) [] := by
  refine met_go T.f_Blocks_types_in T.k_Blocks T.me_Blocks_types_in sc_Blocks_types_in (fun _ _ _ _ _ _ us hl => match us, hl with | [_, _], _ => rfl) (fun _ _ _ _ h => h.1) fun cdv A outer s H vs Q E hr h => ?_
  have hu := hu_of hr
  refine ⟨_, (pss_cons (ps_set (i := 2) sc_Blocks_types_in.nd rfl (by first | exact Or.inl rfl | exact Or.inr rfl) (C8.pe_mt c_Blocks_memory_forest hr (by decide) (pv 0) (pa_cons (pv 1) pa_nil)))
    (pss_one (ps_ret (pe_dc (own := [("block", 3)]) rfl sc_Blocks_types_in.nd (pi_keysL (pv 2)) (blkOk_by (own := [("block", 3)]) (N := n_Blocks_types_in) (sc := defScope s_Blocks_types_in) (by decide +kernel)) (fun _ _ _ _ _ => (pg_name (i := 3) sc_Blocks_types_in.nd rfl (by first | exact Or.inl rfl | exact Or.inr rfl))) (fun _ _ _ _ _ => pts_nil) (fun _ _ _ _ _ => (pv 3)) (fun _ _ _ _ _ => (pe_ix (show IxR _ (rIxT K) from ix_tup) (pe_dget hu (pv 2) (pv 3) (fun _ _ => rfl)) pe_int (fun _ _ => rfl))))))), ?_⟩
  obtain ⟨_, A, n, s, e, L, M, C, rfl, B, I, he, q⟩ := h
  have hbas := I.bas
  have hn0 := B.disk.n0
  refine ⟨_, rfl, A.bl, _, _, rfl, B.ins, rfl, _, rfl, rfl, A, n, s, e, rfl, B, hbas, he, fun v H1 g1 hf => ?_⟩
  obtain ⟨p, kvs, rfl, hp0, hp1, hm1, hr1⟩ := hf.is (I.mf e he)
  have hkl : kvs.length ≤ 64 := hm1.len (n := 64) fun b x hb => by
    have := hr1 b x hb
    omega
  refine ⟨_, rfl, p, kvs, rfl, hp1, fun od => ?_⟩
  have g2 : Go [] H (upd H1 p (.frz od (.dK kvs))) := g1.late hp0
  have gp : Go [p] H1 (upd H1 p (.frz od (.dK kvs))) := Go.lock0 hp1 trivial
  have hp2 : upd H1 p (.frz od (.dK kvs)) p = some (.frz od (.dK kvs)) := upd_same
  generalize upd H1 p (.frz od (.dK kvs)) = H2 at g2 gp hp2 ⊢
  refine dc_go (fun i c H' => c.map (fun p => p.1) = (kvs.take i).map (fun p => p.1) ∧ ∀ k v, valV c k = some v → ∃ b x, k = .inl b ∧ M e b = some x ∧ v = oV x.2) wk_keys (le_sl (by omega)) (fun H' g => g.at hp2) (fun _ _ => ⟨rfl, fun k v h => by cases h⟩) (fun i acc D H1 H2 _ h g => h) ?_ ?_
  · rintro i x c H' hi ⟨k, v, hkv, rfl⟩ hl g ⟨hck, hcv⟩ K1 K2 kk1
    obtain ⟨b, x, rfl, hb, t, rfl, ht⟩ := hm1.at hkv
    obtain ⟨hnt, htk⟩ := nd_take hm1.nd hkv
    have hv : valV kvs (Sum.inl b) = some (V.ref t) := val_nodup hm1.nd (Sum.inl b, V.ref t) (List.mem_of_getElem? hkv)
    have dg : DGet H' p (kV (Sum.inl b)) (some (V.ref t)) := .inl ⟨kvs, Sum.inl b, .inr ⟨od, g.at hp2⟩, rfl, hv.symm⟩
    have ht' : SqT K H' t [oV x.1, oV x.2] := .inl (.inl (g.tk _ _ (gp.tk _ _ ht)))
    have hcn : valV c (Sum.inl b) = none := by
      cases z : valV c (Sum.inl b) with
      | none => rfl
      | some y => exact absurd (by have := valV_in z; rw [hck] at this; exact this) hnt
    refine ⟨rfl, _, rfl, _, rfl, _, rfl, p, _, rfl, dg, t, _, 1, _, rfl, rfl, ht', rfl, kk1 (Sum.inl b) _ _ Go.refl ⟨?_, fun k' v' hk' => ?_⟩⟩
    · rw [putK_new _ hcn, List.map_append, hck, htk] <;> rfl
    · rw [valV_put] at hk'
      by_cases ek : k' = Sum.inl b
      · rw [if_pos ek] at hk'
        cases hk'
        exact ⟨b, x, ek, hb, rfl⟩
      · rw [if_neg ek] at hk'
        exact hcv k' v' hk'
  · rintro D c H' hD g hacc ⟨hck, hcv⟩
    refine q D c _ (g2.trans g) (g2.free hD) hacc ⟨?_, fun k v hk => ?_, fun b x hx => ?_⟩
    · rw [hck, List.take_length]
      exact hm1.nd
    · obtain ⟨b, x, e1, e2, e3⟩ := hcv k v hk
      exact ⟨b, x.2, e1, by rw [e2] <;> rfl, e3⟩
    · cases hb : M e b with
      | none => rw [hb] at hx; cases hx
      | some y =>
        obtain ⟨v, hv⟩ := hm1.cpl b y hb
        have hm := valV_in hv
        rw [← List.take_length (l := kvs), ← hck] at hm
        cases z : valV c (Sum.inl b) with
        | none => exact absurd hm (valV_not z)
        | some w => exact ⟨w, rfl⟩
end
inductive Reach (G : Mp) : Int → Int → Prop
  | refl (c : Int) : Reach G c c
  | up {c p x : Int} {k : Option Int} : G c = some (some p, k) → Reach G p x → Reach G c x
theorem Reach.snoc {G : Mp} {c x p : Int} {k : Option Int} (h : Reach G c x) (e : G x = some (some p, k)) : Reach G c p := by
  induction h with
  | refl c => exact .up e (.refl p)
  | up e2 _ ih => exact .up e2 (ih e)
theorem Reach.cases' {G : Mp} {c x : Int} (h : Reach G c x) : x = c ∨ ∃ p k, G c = some (some p, k) ∧ Reach G p x := by
  cases h with
  | refl => exact .inl rfl
  | up e r => exact .inr ⟨_, _, e, r⟩
/-- rows of an alter -/
def RwV (K : PySem.W.Frag) (H : Hp) (v : V) (r : Int × Wd) : Prop := ∃ u, TupIs K H v [.int r.1, u] ∧ WdV K H u r.2
def RwsV (K : PySem.W.Frag) (H : Hp) (v : V) (rows : List (Int × Wd)) : Prop := ∃ ts, TupIs K H v ts ∧ Paired (RwV K H) ts rows
theorem RwV.go {Z : List Addr} {K : PySem.W.Frag} {H H' : Hp} {v : V} {r : Int × Wd} (h : RwV K H v r) (g : Go Z H H') : RwV K H' v r := let ⟨u, a, b⟩ := h; ⟨u, a.go g, b.go g⟩
theorem RwsV.go {Z : List Addr} {K : PySem.W.Frag} {H H' : Hp} {v : V} {r : List (Int × Wd)} (h : RwsV K H v r) (g : Go Z H H') : RwsV K H' v r := let ⟨ts, a, b⟩ := h; ⟨ts, a.go g, Paired.mapP b fun _ _ z => z.go g⟩
def sp_Blocks_is_above (K : PySem.W.Frag) : Sp := fun vs H Q _ => vs.length = 4 ∧ ∃ A n s e L M C v rows c, vs = [.ref A.bl, .int e, v, .int c] ∧ BlkAt K A H n s ∧ InvB n gdF s L M C ∧ Env e ∧ RwsV K H v rows ∧ rows.length ≤ 2 ∧ (∀ r ∈ rows, ∃ x, M e r.1 = some x) ∧
  ∀ r H', Go [] H H' → (r = false → ∀ p ∈ rows, ∀ x, Reach (M e) p.1 x → x ≠ c) → Q (.bl r) H'
section
variable {P : Program} {w : World} {K : PySem.W.Frag} {mg : Str → Option Value} {base : Heap}
theorem ok_Blocks_is_above (T : Txt w K mg) (c_Blocks_memory_forest : C8.Met P w K mg base 5 (He.ga K "Blocks") "memory_forest" (sp_Blocks_memory_forest K) []) : C8.Met P w K mg base 6 (He.ga K "Blocks") "_is_above" (sp_Blocks_is_above K) [] := by
  refine met_go T.f_Blocks_is_above T.k_Blocks T.me_Blocks_is_above sc_Blocks_is_above (fun _ _ _ _ _ _ us hl => match us, hl with | [_, _, _, _], _ => rfl) (fun _ _ _ _ h => h.1) fun cdv A outer s H vs Q E hr h => ?_
  have hu := hu_of hr
  refine ⟨_, (pss_cons (ps_set (i := 4) sc_Blocks_is_above.nd rfl (by first | exact Or.inl rfl | exact Or.inr rfl) (C8.pe_mt c_Blocks_memory_forest hr (by decide) (pv 0) (pa_cons (pv 1) pa_nil)))
    (pss_cons (ps_for PassesOwn.never rfl (pi_tup (pv 2)) (pg_tupK K (n := 2) rfl rfl (pgs_cons (pg_name (i := 5) sc_Blocks_is_above.nd rfl (by first | exact Or.inl rfl | exact Or.inr rfl)) (pgs_cons (pg_name (i := 6) sc_Blocks_is_above.nd rfl (by first | exact Or.inl rfl | exact Or.inr rfl)) pgs_nil))) (pss_one (ps_while PassesOwn.never (pt_cmpR op_notN (pv 5) pe_non (nomark _)) (pss_cons (ps_if (pt_cmpR op_eq (pv 5) (pv 3) (nomark _)) (pss_one (ps_ret pe_bl)) pss_nil)
    (pss_one (ps_set (i := 5) sc_Blocks_is_above.nd rfl (by first | exact Or.inl rfl | exact Or.inr rfl) (pe_ix (show IxR _ (rIxT K) from ix_tup) (pe_dget hu (pv 4) (pv 5) (fun _ _ => rfl)) pe_int (fun _ _ => rfl))))))))
    (pss_one (ps_ret pe_bl)))), ?_⟩
  obtain ⟨_, A, n, s, e, L, M, C, v, rows, c, rfl, B, I, he, ⟨ts, ⟨ra, rfl, hra⟩, hts⟩, hrl, hrM, q⟩ := h
  have hbas := I.bas
  have hn0 := B.disk.n0
  refine ⟨_, rfl, A.bl, _, _, rfl, B.ins, rfl, _, rfl, rfl, A, n, s, e, rfl, B, hbas, he, fun v H1 g1 hf => ?_⟩
  obtain ⟨p, kvs, rfl, hp0, hp1, hm1, hr1⟩ := hf.is (I.mf e he)
  refine ⟨_, rfl, ra, rfl, ⟨_, g1.tup hra⟩, ?_⟩
  obtain ⟨rk, bd, hbd, hrk⟩ := (I.mf e he).rank
  have hpar := (I.mf e he).par
  refine for_it wk_tup (fun i σ H' => H' = H1 ∧ (∃ x5 x6, σ = [some (.ref A.bl), some (.int e), some (.ref ra), some (.int c), some (.ref p), x5, x6]) ∧ ∀ r ∈ rows.take i, ∀ x, Reach (M e) r.1 x → x ≠ c) ⟨rfl, ⟨_, _, rfl⟩, fun r h => by cases h⟩ (fun i σ H' _ p => by rw [p.1]; exact g1.tup hra) ?_ ?_
  · rintro i x σ H0 H' hi ⟨e0, ⟨x5, x6, rfl⟩, hall⟩ ⟨rfl, hx⟩
    subst e0
    obtain ⟨r, hr, u, ⟨t, rfl, ht⟩, hu⟩ := paired_at hts hx
    refine ⟨t, _, rfl, g1.tup ht, rfl, _, _, rfl, _, _, rfl, rfl, ?_⟩
    refine while_by (fun σ H2 => H2 = H' ∧ ∃ o : Option Int, σ = [some (.ref A.bl), some (.int e), some (.ref ra), some (.int c), some (.ref p), some (oV o), some u] ∧ (∀ y, o = some y → ∃ z, M e y = some z) ∧ ∀ x, Reach (M e) r.1 x → x ≠ c ∨ ∃ y, o = some y ∧ Reach (M e) y x)
      (fun (σ : L2.St) (_ : Hp) => match σ[5]? with | some (some (V.int y)) => rk y + 1 | _ => 0) ?_ ?_ ?_
    · exact ⟨rfl, some r.1, rfl, fun y hy => by rw [← Option.some.inj hy]; exact hrM r (List.mem_of_getElem? hr), fun x hx => .inr ⟨r.1, rfl, hx⟩⟩
    · rintro σ H2 ⟨rfl, o, rfl, ho, hre⟩
      cases o with
      | none =>
        refine ⟨_, rfl, rfl, _, rfl, ?_⟩
        refine ⟨rfl, ⟨_, _, rfl⟩, fun r' hr' x hx => ?_⟩
        have e1 : rows.take (i + 1) = rows.take i ++ [r] := by rw [List.take_add_one, hr] <;> rfl
        rw [e1] at hr'
        rcases List.mem_append.mp hr' with h | h
        · exact hall r' h x hx
        · rw [List.mem_singleton.mp h] at hx
          rcases hre x hx with z | ⟨y, z, _⟩
          · exact z
          · cases z
      | some y =>
        refine ⟨_, rfl, rfl, _, rfl, ?_⟩
        refine ⟨_, rfl, _, rfl, rfl, _, rfl, ?_⟩
        show if decide (V.int y = V.int c) = true then _ else _
        rw [dec_int]
        by_cases hyc : y = c
        · rw [hyc, beq_self_eq_true]
          exact q _ _ g1 fun z => by cases z
        · rw [beq_eq_false_iff_ne.mpr hyc]
          obtain ⟨⟨oy, ky⟩, hMy⟩ := ho y rfl
          obtain ⟨v, v1, t', rfl, ht'⟩ := hm1.gets hMy
          have dg := DGet.k (k := Sum.inl y) hp1
          rw [v1] at dg
          refine ⟨_, rfl, _, rfl, p, _, rfl, dg, t', _, 0, _, rfl, rfl, .inl (.inl ht'), rfl, ?_⟩
          refine ⟨⟨rfl, oy, rfl, fun y' hy' => ?_, fun x hx => ?_⟩, ?_⟩
          · rw [hy'] at hMy
            exact (hpar _ _ _ hMy).1
          · rcases hre x hx with z | ⟨y', z1, z2⟩
            · exact .inl z
            · cases z1
              rcases z2.cases' with z | ⟨p', k', z3, z4⟩
              · rw [z]
                exact .inl hyc
              · rw [hMy] at z3
                have : oy = some p' := by
                  injection z3 with z3
                  injection z3 with z3 _
                exact .inr ⟨p', this, z4⟩
          · cases oy with
            | none => exact Nat.succ_pos _
            | some y' => exact Nat.succ_lt_succ (hrk _ _ _ hMy)
    · intro σ H Q Q' hq h
      obtain ⟨v, e1, e2, k, e3, e4⟩ := h
      exact ⟨v, e1, e2, k, e3, hq _ _ e4⟩
  · rintro σ H' ⟨rfl, ⟨x5, x6, rfl⟩, hall⟩
    rw [hts.length, List.take_length] at hall
    exact q _ _ g1 fun _ => hall
end
theorem inV_int {b : Int} {ns : List Int} : inV (.int b) (ns.map V.int) = true ↔ b ∈ ns := by
  unfold inV
  rw [List.any_map, List.any_eq_true]
  constructor
  · rintro ⟨x, hx, e⟩
    have e : (x == b) = true := e
    rw [← eq_of_beq e]
    exact hx
  · intro h
    exact ⟨b, h, beq_self_eq_true b⟩
def sp_Blocks_may_link (K : PySem.W.Frag) : Sp := fun vs H Q _ => vs.length = 3 ∧ ∃ A n s e L M C p kvs F, vs = [.ref A.bl, .int e, .ref p] ∧ BlkAt K A H n s ∧ InvB n gdF s L M C ∧ Env e ∧ H p = some (.dK kvs) ∧ MapR kvs F (FoV K H) ∧ p ∉ A.all ∧
  ∀ r H', Go [p] H H' → (r = true → ∀ x v, F x = some v → s.fresh x = true ∧ (4 ≤ x → Ch s L M C e x)) → Q (.bl r) H'
section
variable {P : Program} {w : World} {K : PySem.W.Frag} {mg : Str → Option Value} {base : Heap}
theorem ok_Blocks_may_link (T : Txt w K mg) (c_Blocks_charged : C8.Met P w K mg base 7 (He.ga K "Blocks") "charged" (sp_Blocks_charged K) []) (c_Blocks_is_fresh : C8.Met P w K mg base 1 (He.ga K "Blocks") "is_fresh" (sp_Blocks_is_fresh K) []) : C8.Met P w K mg base 8 (He.ga K "Blocks") "_may_link" (sp_Blocks_may_link K) [] := by
  refine met_go T.f_Blocks_may_link T.k_Blocks T.me_Blocks_may_link sc_Blocks_may_link (fun _ _ _ _ _ _ us hl => match us, hl with | [_, _, _], _ => rfl) (fun _ _ _ _ h => h.1) fun cdv A outer s H vs Q E hr h => ?_
  refine ⟨_, (pss_cons (ps_set (i := 3) sc_Blocks_may_link.nd rfl (by first | exact Or.inl rfl | exact Or.inr rfl) (C8.pe_mt c_Blocks_charged hr (by decide) (pv 0) (pa_cons (pv 1) pa_nil)))
    (pss_cons (ps_for PassesOwn.never rfl (pi_keysL (pv 2)) (pg_name (i := 4) sc_Blocks_may_link.nd rfl (by first | exact Or.inl rfl | exact Or.inr rfl)) (pss_one (ps_if (PW.pt (pw_or (pt_not (pt_val (C8.pe_mt c_Blocks_is_fresh hr (by decide) (pv 0) (pa_cons (pv 4) pa_nil)))) (pw_or1 (PW.pt (pw_and (pt_cmpR op_ge (pv 4) (C8.pe_gc (by rfl) T.g_ENVIRONMENTS) (nomark _)) (pw_and1 (pt_cmpR (show OpR _ _ (rIn K true) from op_notIn_seq) (pv 4) (pv 3) (by rfl)))))))) (pss_one (ps_ret pe_bl)) pss_nil)))
    (pss_one (ps_ret pe_bl)))), ?_⟩
  obtain ⟨_, A, n, s, e, L, M, C, p, kvs, F, rfl, B, I, he, hp, hm, hpA, q⟩ := h
  have hbas := I.bas
  have hn0 := B.disk.n0
  refine ⟨_, rfl, A.bl, _, _, rfl, B.ins, rfl, _, rfl, rfl, A, n, s, e, L, M, C, rfl, B, I, he, fun pc ns H1 g1 hpc0 hpc hmem hnl => ?_⟩
  have hp1 := g1.at hp
  have npc : pc ≠ p := (ne_of_none hp hpc0).symm
  refine ⟨_, rfl, p, kvs, rfl, hp1, fun od => ?_⟩
  have g2 : Go [p] H1 (upd H1 p (.frz od (.dK kvs))) := Go.lock0 hp1 trivial
  have hp2 : upd H1 p (.frz od (.dK kvs)) p = some (.frz od (.dK kvs)) := upd_same
  have hpc2 : upd H1 p (.frz od (.dK kvs)) pc = some (.lst (ns.map V.int)) := by rw [upd_ne npc]; exact hpc
  generalize upd H1 p (.frz od (.dK kvs)) = H2 at g2 hp2 hpc2 ⊢
  have gg : Go [p] H H2 := g1.lift.trans g2
  have B2 := B.goZ gg fun a ha => by
    simp only [List.mem_singleton]
    intro z
    rw [z] at ha
    exact hpA ha
  refine for_it wk_keys (fun i σ H' => H' = H2 ∧ (∃ x4, σ = [some (.ref A.bl), some (.int e), some (.ref p), some (.ref pc), x4]) ∧ ∀ x : Int, (Sum.inl x : Key) ∈ (kvs.take i).map (fun p : Key × V => p.1) → s.fresh x = true ∧ (4 ≤ x → Ch s L M C e x)) ⟨rfl, ⟨_, rfl⟩, fun x h => by cases h⟩ (fun i σ H' _ p => by rw [p.1]; exact hp2) ?_ ?_
  · rintro i x σ H0 H' hi ⟨e0, ⟨x4, rfl⟩, hall⟩ ⟨rfl, k, v, hkv, rfl⟩
    subst e0
    obtain ⟨b, y, rfl, hb, _⟩ := hm.at hkv
    obtain ⟨hnt, htk⟩ := nd_take hm.nd hkv
    refine ⟨_, rfl, A.bl, _, _, rfl, B2.ins, rfl, _, rfl, rfl, A, n, s, b, rfl, B2, _, rfl, ?_⟩
    cases hfb : s.fresh b with
    | false => exact q _ _ gg fun z => by cases z
    | true =>
      refine ⟨_, rfl, b, 4, rfl, rfl, _, rfl, ?_⟩
      have done : (4 ≤ b → Ch s L M C e b) → ∀ x : Int, (Sum.inl x : Key) ∈ (kvs.take (i + 1)).map (fun p : Key × V => p.1) → s.fresh x = true ∧ (4 ≤ x → Ch s L M C e x) := fun hc x hx => by
        rw [htk] at hx
        rcases List.mem_append.mp hx with h | h
        · exact hall x h
        · have e1 : x = b := Sum.inl.inj (List.mem_singleton.mp h)
          rw [e1]
          exact ⟨hfb, hc⟩
      by_cases h4 : 4 ≤ b
      · rw [decide_eq_true h4]
        refine ⟨_, rfl, _, rfl, pc, _, rfl, .inl (.inl (.inl hpc2)), rfl, by rw [List.all_map]; exact List.all_eq_true.mpr fun _ _ => rfl, _, rfl, ?_⟩
        show if (!inV (V.int b) (ns.map V.int)) = true then _ else _
        cases hin : inV (V.int b) (ns.map V.int) with
        | true => exact ⟨rfl, ⟨_, rfl⟩, done fun _ => ((hmem b).mp (inV_int.mp hin)).2⟩
        | false => exact q _ _ gg fun z => by cases z
      · rw [decide_eq_false h4]
        exact ⟨rfl, ⟨_, rfl⟩, done fun z => absurd z h4⟩
  · rintro σ H' ⟨rfl, ⟨x4, rfl⟩, hall⟩
    rw [List.take_length] at hall
    refine q _ _ gg fun _ x v hv => ?_
    obtain ⟨u, hu⟩ := hm.cpl x v hv
    exact hall x (valV_in hu)
end

end SH

set_option Elab.async false
set_option linter.all false
set_option maxRecDepth 100000
set_option maxHeartbeats 4000000
namespace SH
open PySem PySem.Spec PyProof.Rows L2
def s0 (W : Int → Wd) (f : Int → Bool) : St := ⟨W, [], fun _ => none, fun _ => none, f⟩
theorem bas0 {n : Int} {W : Int → Wd} {f : Int → Bool} (hW : ∀ b, 0 ≤ b → b < n → Okw (W b)) (hf : ∀ b, f b = true → 0 ≤ b ∧ b < n) : Bas n (s0 W f) :=
  ⟨hW, fun op h => (by cases h), fun b w e h => (by cases h), fun b e w h => (by cases h), fun b e k h => (by cases h), hf, List.nodup_nil⟩
theorem l_rng {n : Int} {W : Int → Wd} {G : Mp} {e b : Int} {v : Option Int × Option Int} (hn : 24 ≤ n) (he : Env e) (F : IsF n gdF (R1 e) W G) (h : G b = some v) : 0 ≤ b ∧ b < n := by
  obtain ⟨o, k⟩ := v
  rcases F.rng h with ⟨q, _⟩ | ⟨q1, q2, _⟩
  · have := (R1_iff.mp q).1
    have := he.1
    have := he.2
    omega
  · omega
def sp_Blocksinit (K : PySem.W.Frag) : Sp := fun vs H Q _ => vs.length = 4 ∧ ∃ x dx dk dxd he wa sp ty dxt kn mk n W ms, ∃ L : Int → Mp, vs = [.ref x, .ref dk, .ref sp, .ref ty] ∧ H x = some (.ins (He.ga K "Blocks") dx []) ∧ DiskAt K dk dxd he wa H n W [] ∧ H sp = some (.lst [.int 5, .int 5, .int 5, .int 5]) ∧
  TypesAt K ty dxt kn mk H n [prog2, prog3] ms ∧ [he, wa, kn, mk].Nodup ∧ (∀ e, Env e → IsF n gdF (R1 e) W (L e)) ∧ (∀ b, 0 ≤ b → b < n → Okw (W b)) ∧ x ≠ dk ∧ x ≠ ty ∧
  ∀ H' sh bu ke fr f, Go [x] H H' → H sh = none → H bu = none → H ke = none → H fr = none → BlkAt K ⟨x, dx, dk, dxd, ty, dxt, he, wa, sh, kn, mk, bu, ke, fr⟩ H' n (s0 W f) → (∀ b, f b = true ↔ ∃ e v, Env e ∧ L e b = some v) → Q .non H'
section
variable {P : Program} {w : World} {K : PySem.W.Frag} {mg : Str → Option Value} {base : Heap}
theorem ok_Blocksinit (T : Txt w K mg) (c_is_number : C8.Cal P w K mg base 1 "is_number" (sp_is_number K) []) (c_Blocks_lasting_forest : C8.Met P w K mg base 5 (He.ga K "Blocks") "lasting_forest" (sp_Blocks_lasting_forest K) []) : C8.Mak P w K mg base 6 "Blocks" (He.ga K "Blocks") (sp_Blocksinit K) [] := by
  refine mak_go1 T.f_Blocksinit T.mk_Blocks T.o_Blocks sc_Blocksinit (fun _ _ _ _ _ _ _ us its hl h2 => match us, hl, its, h2 with | [_, _, _, _], _, [_], _ => ⟨_, rfl, rfl⟩) (fun _ _ _ _ h => h.1) fun cdv A outer s H vs Q E hr h => ?_
  have hu := hu_of hr
  refine ⟨_, (pss_cons (ps_if (PW.pt (pw_or (pt_cmpR op_ne (pe_callB (show CallR _ _ (rLen K) from call_len) (by rfl) T.b_len PySem.boot_len (pa_cons (pv 2) pa_nil)) (C8.pe_gc (by rfl) T.g_ENVIRONMENTS) (nomark _)) (pw_or1 (pt_not (pt_val (pe_callB (cr_all rfl) (by rfl) T.b_all (by decide +kernel) (pa_cons (pe_lc (own := [("share", 6)]) rfl sc_Blocksinit.nd (pi_list (pv 2)) (blkOk_by (own := [("share", 6)]) (N := n_Blocksinit) (sc := defScope s_Blocksinit) (by decide +kernel)) (fun _ _ _ _ _ => (pg_name (i := 6) sc_Blocksinit.nd rfl (by first | exact Or.inl rfl | exact Or.inr rfl))) (fun _ _ _ _ _ => pts_nil) (fun _ _ _ _ _ => (pe_and (C8.pe_c c_is_number hr (by decide) (by rfl) (pa_cons (pv 6) pa_nil)) (pe_one (pe_cmpR op_ge (pv 6) pe_int (nomark _)))))) pa_nil))))))) (pss_one ps_never) pss_nil)
    (pss_cons (ps_if (pt_cmpR op_gt (pe_callB (cr_sum rfl) (by rfl) T.b_sum (by decide +kernel) (pa_cons (pv 2) pa_nil)) (pe_op op_sub (pe_fldK K rfl (pv 1) rfl) (C8.pe_gc (by rfl) T.g_ENVIRONMENTS)) (nomark _)) (pss_one ps_never) pss_nil)
    (pss_cons (ps_fld (pv 0) (pv 1) rfl)
    (pss_cons (ps_fld (pv 0) (pe_callTy call_list_of (by rfl) T.b_list (by decide +kernel) (pa_cons (pv 2) pa_nil)) rfl)
    (pss_cons (ps_fld (pv 0) (pv 3) rfl)
    (pss_cons (ps_if (pt_cmpR op_isN (pv 3) pe_non (nomark _)) pss_never pss_nil)
    (pss_cons (ps_fld (pv 0) pe_dnewK rfl)
    (pss_cons (ps_fld (pv 0) pe_dnewK rfl)
    (pss_cons (ps_fld (pv 0) pe_dnewK rfl)
    (pss_one (ps_for PassesOwn.never rfl (pi_range1 (by rfl) T.b_range (pa_cons (C8.pe_gc (by rfl) T.g_ENVIRONMENTS) pa_nil)) (pg_name (i := 4) sc_Blocksinit.nd rfl (by first | exact Or.inl rfl | exact Or.inr rfl)) (pss_one (ps_for PassesOwn.never rfl (pi_keysL (C8.pe_mt c_Blocks_lasting_forest hr (by decide) (pv 0) (pa_cons (pv 4) pa_nil))) (pg_name (i := 5) sc_Blocksinit.nd rfl (by first | exact Or.inl rfl | exact Or.inr rfl)) (pss_one (ps_dput hu (pe_fldK K rfl (pv 0) rfl) (pv 5) pe_bl rfl))))))))))))))), ?_⟩
  obtain ⟨_, x, dx, dk, dxd, he, wa, sp, ty, dxt, kn, mk, n, W, ms, L, rfl, hx, D, hsp, Ty, nl, hL, hW, nxd, nxt, q⟩ := h
  have hn0 := D.n0
  refine ⟨_, rfl, _, 4, rfl, .inl ⟨_, .inl (.inl hsp), rfl⟩, rfl, false, rfl, ?_⟩
  refine ⟨_, rfl, sp, rfl, ⟨_, .inl (.inl hsp)⟩, ?_⟩
  refine lc_go (Z := []) (fun i acc _ => acc = (List.replicate i true).map V.bl) wk_list (by decide) no_z (fun H' g => .inl (.inl (g.at hsp))) (fun _ _ => rfl) (fun _ _ _ _ _ _ h _ => h) ?_ ?_
  · intro i y acc H' hi hy hl g hR K1 K2 k1 k2
    have ey : y = .int 5 := by
      have := List.mem_of_getElem? hy
      simp at this
      exact this
    subst ey
    refine ⟨rfl, _, rfl, rfl, 5, rfl, true, rfl, _, rfl, 5, 0, rfl, rfl, k1 _ _ Go.refl ?_⟩
    rw [hR, List.replicate_succ', List.map_append] <;> rfl
  intro lb acc H1 hlb g1 hacc hl hR
  subst hR
  refine ⟨lb, _, rfl, .inl (.inl hacc), true, congrArg V.bl (by rw [List.all_replicate]; simp), ?_⟩
  have D1 := D.go g1 (by simp)
  refine ⟨_, rfl, sp, [5, 5, 5, 5], rfl, .inl (.inl (g1.at hsp)), _, rfl, _, _, _, _, _, rfl, D1.ins, T.k_Disk, T.na_Disk_blocks, rfl, n, 4, rfl, rfl, 20, n - 4, rfl, rfl, false, bF (by omega), ?_⟩
  have h1x := g1.at hx
  have nxs : sp ≠ x := ne_of hsp hx (by simp)
  refine ⟨_, rfl, _, rfl, _, _, _, _, rfl, h1x, T.k_Blocks, T.na_Blocks_disk, by simp, ?_⟩
  have g2 : Go [x] H (upd H1 x (.ins (He.ga K "Blocks") dx (putF "disk" (.ref dk) []))) := (g1.lift).trans (Go.put List.mem_cons_self (by rw [h1x]; trivial))
  have h2x : upd H1 x (.ins (He.ga K "Blocks") dx (putF "disk" (.ref dk) [])) x = some (.ins (He.ga K "Blocks") dx [("disk", .ref dk)]) := upd_same
  generalize upd H1 x (.ins (He.ga K "Blocks") dx (putF "disk" (.ref dk) [])) = H2 at g2 h2x  ⊢
  have hsp2 : H2 sp = some (.lst [.int 5, .int 5, .int 5, .int 5]) := g2.fr _ _ hsp (by simpa using nxs)
  refine ⟨_, rfl, sp, _, rfl, .inl (.inl (.inl hsp2)), fun sh hsh => ?_⟩
  have nshx : sh ≠ x := (ne_of_none h2x hsh).symm
  have hsh0 : H sh = none := g2.free hsh
  have k3 : Go [] H2 (upd H2 sh (.lst [.int 5, .int 5, .int 5, .int 5])) := Go.new hsh
  have g3 := g2.trans k3.lift
  have h3x := k3.at h2x
  have h3sh : upd H2 sh (.lst [.int 5, .int 5, .int 5, .int 5]) sh = some (.lst [.int 5, .int 5, .int 5, .int 5]) := upd_same
  generalize upd H2 sh (.lst [.int 5, .int 5, .int 5, .int 5]) = H3 at g3 h3x h3sh ⊢
  refine ⟨_, rfl, _, _, _, _, rfl, h3x, T.k_Blocks, T.na_Blocks_shares, by simp, ?_⟩
  have g4 : Go [x] H (upd H3 x (.ins (He.ga K "Blocks") dx (putF "shares" (.ref sh) [("disk", .ref dk)]))) := (g3).trans (Go.put List.mem_cons_self (by rw [h3x]; trivial))
  have h4x : upd H3 x (.ins (He.ga K "Blocks") dx (putF "shares" (.ref sh) [("disk", .ref dk)])) x = some (.ins (He.ga K "Blocks") dx [("disk", .ref dk), ("shares", .ref sh)]) := upd_same
  have h4sh : upd H3 x (.ins (He.ga K "Blocks") dx (putF "shares" (.ref sh) [("disk", .ref dk)])) sh = some (.lst [.int 5, .int 5, .int 5, .int 5]) := by rw [upd_ne nshx]; exact h3sh
  generalize upd H3 x (.ins (He.ga K "Blocks") dx (putF "shares" (.ref sh) [("disk", .ref dk)])) = H4 at g4 h4x h4sh ⊢
  refine ⟨_, rfl, _, rfl, _, _, _, _, rfl, h4x, T.k_Blocks, T.na_Blocks_types, by simp, ?_⟩
  have g5 : Go [x] H (upd H4 x (.ins (He.ga K "Blocks") dx (putF "types" (.ref ty) [("disk", .ref dk), ("shares", .ref sh)]))) := (g4).trans (Go.put List.mem_cons_self (by rw [h4x]; trivial))
  have h5x : upd H4 x (.ins (He.ga K "Blocks") dx (putF "types" (.ref ty) [("disk", .ref dk), ("shares", .ref sh)])) x = some (.ins (He.ga K "Blocks") dx [("disk", .ref dk), ("shares", .ref sh), ("types", .ref ty)]) := upd_same
  have h5sh : upd H4 x (.ins (He.ga K "Blocks") dx (putF "types" (.ref ty) [("disk", .ref dk), ("shares", .ref sh)])) sh = some (.lst [.int 5, .int 5, .int 5, .int 5]) := by rw [upd_ne nshx]; exact h4sh
  generalize upd H4 x (.ins (He.ga K "Blocks") dx (putF "types" (.ref ty) [("disk", .ref dk), ("shares", .ref sh)])) = H5 at g5 h5x h5sh ⊢
  refine ⟨_, rfl, rfl, false, congrArg V.bl (decide_eq_false (by simp)), ?_⟩
  refine fun bu hbu => ?_
  have nbux : bu ≠ x := (ne_of_none h5x hbu).symm
  have nshbu : sh ≠ bu := ne_of_none h5sh hbu
  have hbu0 : H bu = none := g5.free hbu
  have k6 : Go [] H5 (upd H5 bu (.dK [])) := Go.new hbu
  have g6 := g5.trans k6.lift
  have h6x := k6.at h5x
  have h6sh := k6.at h5sh
  have h6bu : upd H5 bu (.dK []) bu = some (.dK []) := upd_same
  generalize upd H5 bu (.dK []) = H6 at g6 h6x h6sh h6bu ⊢
  refine ⟨_, rfl, _, _, _, _, rfl, h6x, T.k_Blocks, T.na_Blocks_buffers, by simp, ?_⟩
  have g7 : Go [x] H (upd H6 x (.ins (He.ga K "Blocks") dx (putF "buffers" (.ref bu) [("disk", .ref dk), ("shares", .ref sh), ("types", .ref ty)]))) := (g6).trans (Go.put List.mem_cons_self (by rw [h6x]; trivial))
  have h7x : upd H6 x (.ins (He.ga K "Blocks") dx (putF "buffers" (.ref bu) [("disk", .ref dk), ("shares", .ref sh), ("types", .ref ty)])) x = some (.ins (He.ga K "Blocks") dx [("disk", .ref dk), ("shares", .ref sh), ("types", .ref ty), ("buffers", .ref bu)]) := upd_same
  have h7sh : upd H6 x (.ins (He.ga K "Blocks") dx (putF "buffers" (.ref bu) [("disk", .ref dk), ("shares", .ref sh), ("types", .ref ty)])) sh = some (.lst [.int 5, .int 5, .int 5, .int 5]) := by rw [upd_ne nshx]; exact h6sh
  have h7bu : upd H6 x (.ins (He.ga K "Blocks") dx (putF "buffers" (.ref bu) [("disk", .ref dk), ("shares", .ref sh), ("types", .ref ty)])) bu = some (.dK []) := by rw [upd_ne nbux]; exact h6bu
  generalize upd H6 x (.ins (He.ga K "Blocks") dx (putF "buffers" (.ref bu) [("disk", .ref dk), ("shares", .ref sh), ("types", .ref ty)])) = H7 at g7 h7x h7sh h7bu ⊢
  refine fun ke hke => ?_
  have nkex : ke ≠ x := (ne_of_none h7x hke).symm
  have nshke : sh ≠ ke := ne_of_none h7sh hke
  have nbuke : bu ≠ ke := ne_of_none h7bu hke
  have hke0 : H ke = none := g7.free hke
  have k8 : Go [] H7 (upd H7 ke (.dK [])) := Go.new hke
  have g8 := g7.trans k8.lift
  have h8x := k8.at h7x
  have h8sh := k8.at h7sh
  have h8bu := k8.at h7bu
  have h8ke : upd H7 ke (.dK []) ke = some (.dK []) := upd_same
  generalize upd H7 ke (.dK []) = H8 at g8 h8x h8sh h8bu h8ke ⊢
  refine ⟨_, rfl, _, _, _, _, rfl, h8x, T.k_Blocks, T.na_Blocks_kept, by simp, ?_⟩
  have g9 : Go [x] H (upd H8 x (.ins (He.ga K "Blocks") dx (putF "kept" (.ref ke) [("disk", .ref dk), ("shares", .ref sh), ("types", .ref ty), ("buffers", .ref bu)]))) := (g8).trans (Go.put List.mem_cons_self (by rw [h8x]; trivial))
  have h9x : upd H8 x (.ins (He.ga K "Blocks") dx (putF "kept" (.ref ke) [("disk", .ref dk), ("shares", .ref sh), ("types", .ref ty), ("buffers", .ref bu)])) x = some (.ins (He.ga K "Blocks") dx [("disk", .ref dk), ("shares", .ref sh), ("types", .ref ty), ("buffers", .ref bu), ("kept", .ref ke)]) := upd_same
  have h9sh : upd H8 x (.ins (He.ga K "Blocks") dx (putF "kept" (.ref ke) [("disk", .ref dk), ("shares", .ref sh), ("types", .ref ty), ("buffers", .ref bu)])) sh = some (.lst [.int 5, .int 5, .int 5, .int 5]) := by rw [upd_ne nshx]; exact h8sh
  have h9bu : upd H8 x (.ins (He.ga K "Blocks") dx (putF "kept" (.ref ke) [("disk", .ref dk), ("shares", .ref sh), ("types", .ref ty), ("buffers", .ref bu)])) bu = some (.dK []) := by rw [upd_ne nbux]; exact h8bu
  have h9ke : upd H8 x (.ins (He.ga K "Blocks") dx (putF "kept" (.ref ke) [("disk", .ref dk), ("shares", .ref sh), ("types", .ref ty), ("buffers", .ref bu)])) ke = some (.dK []) := by rw [upd_ne nkex]; exact h8ke
  generalize upd H8 x (.ins (He.ga K "Blocks") dx (putF "kept" (.ref ke) [("disk", .ref dk), ("shares", .ref sh), ("types", .ref ty), ("buffers", .ref bu)])) = H9 at g9 h9x h9sh h9bu h9ke ⊢
  refine fun fr hfr => ?_
  have nfrx : fr ≠ x := (ne_of_none h9x hfr).symm
  have nshfr : sh ≠ fr := ne_of_none h9sh hfr
  have nbufr : bu ≠ fr := ne_of_none h9bu hfr
  have nkefr : ke ≠ fr := ne_of_none h9ke hfr
  have hfr0 : H fr = none := g9.free hfr
  have k10 : Go [] H9 (upd H9 fr (.dK [])) := Go.new hfr
  have g10 := g9.trans k10.lift
  have h10x := k10.at h9x
  have h10sh := k10.at h9sh
  have h10bu := k10.at h9bu
  have h10ke := k10.at h9ke
  have h10fr : upd H9 fr (.dK []) fr = some (.dK []) := upd_same
  generalize upd H9 fr (.dK []) = H10 at g10 h10x h10sh h10bu h10ke h10fr ⊢
  refine ⟨_, rfl, _, _, _, _, rfl, h10x, T.k_Blocks, T.na_Blocks_fresh, by simp, ?_⟩
  have g11 : Go [x] H (upd H10 x (.ins (He.ga K "Blocks") dx (putF "fresh" (.ref fr) [("disk", .ref dk), ("shares", .ref sh), ("types", .ref ty), ("buffers", .ref bu), ("kept", .ref ke)]))) := (g10).trans (Go.put List.mem_cons_self (by rw [h10x]; trivial))
  have h11x : upd H10 x (.ins (He.ga K "Blocks") dx (putF "fresh" (.ref fr) [("disk", .ref dk), ("shares", .ref sh), ("types", .ref ty), ("buffers", .ref bu), ("kept", .ref ke)])) x = some (.ins (He.ga K "Blocks") dx [("disk", .ref dk), ("shares", .ref sh), ("types", .ref ty), ("buffers", .ref bu), ("kept", .ref ke), ("fresh", .ref fr)]) := upd_same
  have h11sh : upd H10 x (.ins (He.ga K "Blocks") dx (putF "fresh" (.ref fr) [("disk", .ref dk), ("shares", .ref sh), ("types", .ref ty), ("buffers", .ref bu), ("kept", .ref ke)])) sh = some (.lst [.int 5, .int 5, .int 5, .int 5]) := by rw [upd_ne nshx]; exact h10sh
  have h11bu : upd H10 x (.ins (He.ga K "Blocks") dx (putF "fresh" (.ref fr) [("disk", .ref dk), ("shares", .ref sh), ("types", .ref ty), ("buffers", .ref bu), ("kept", .ref ke)])) bu = some (.dK []) := by rw [upd_ne nbux]; exact h10bu
  have h11ke : upd H10 x (.ins (He.ga K "Blocks") dx (putF "fresh" (.ref fr) [("disk", .ref dk), ("shares", .ref sh), ("types", .ref ty), ("buffers", .ref bu), ("kept", .ref ke)])) ke = some (.dK []) := by rw [upd_ne nkex]; exact h10ke
  have h11fr : upd H10 x (.ins (He.ga K "Blocks") dx (putF "fresh" (.ref fr) [("disk", .ref dk), ("shares", .ref sh), ("types", .ref ty), ("buffers", .ref bu), ("kept", .ref ke)])) fr = some (.dK []) := by rw [upd_ne nfrx]; exact h10fr
  generalize upd H10 x (.ins (He.ga K "Blocks") dx (putF "fresh" (.ref fr) [("disk", .ref dk), ("shares", .ref sh), ("types", .ref ty), ("buffers", .ref bu), ("kept", .ref ke)])) = H11 at g11 h11x h11sh h11bu h11ke h11fr ⊢
  have B0 : BlkAt K ⟨x, dx, dk, dxd, ty, dxt, he, wa, sh, kn, mk, bu, ke, fr⟩ H11 n (s0 W fun _ => false) := by
    obtain ⟨hs, d1, _⟩ := D.heldL
    obtain ⟨ws, d2, _⟩ := D.waL
    obtain ⟨ks, t1, _⟩ := Ty.knL
    have nhx := ne_of d1 hx (by simp)
    have nwx := ne_of d2 hx (by simp)
    have nknx := ne_of t1 hx (by simp)
    have nmkx := ne_of Ty.mkL hx (by simp)
    simp only [List.nodup_cons, List.mem_cons, List.not_mem_nil, or_false, not_or] at nl
    refine ⟨h11x, D.go g11 (by simp [nxd.symm, nhx, nwx]), ⟨ms, Ty.go g11 (by simp [nxt.symm, nknx, nmkx])⟩, ⟨[], h11bu, MapR.nil⟩, ⟨[], h11ke, MapR.nil⟩, ⟨[], h11fr, MapR.nil.congr fun b => rfl⟩, h11sh, ?_, ?_⟩
    · simp [nbuke, nbufr, nkefr]
    · have a1 := ne_of_none d1 hsh0
      have a2 := ne_of_none d2 hsh0
      have a3 := ne_of_none t1 hsh0
      have a4 := ne_of_none Ty.mkL hsh0
      simp only [List.nodup_cons, List.mem_cons, List.not_mem_nil, or_false, not_or]
      exact ⟨⟨nl.1.1, a1, nl.1.2.1, nl.1.2.2⟩, ⟨a2, nl.2.1.1, nl.2.1.2⟩, ⟨a3.symm, a4.symm⟩, nl.2.2.1, by simp, by simp⟩
  clear h11sh h11bu h11ke h11fr
  refine ⟨4, rfl, by decide, by decide, ?_⟩
  refine for_it wk_range (fun i σ H' => ∃ x4 x5 x6 f, σ = [some (.ref x), some (.ref dk), some (.ref sp), some (.ref ty), x4, x5, x6] ∧ Go [x] H H' ∧ BlkAt K ⟨x, dx, dk, dxd, ty, dxt, he, wa, sh, kn, mk, bu, ke, fr⟩ H' n (s0 W f) ∧ ∀ b, f b = true ↔ ∃ (e : Int) (v : Option Int × Option Int), (0 ≤ e ∧ e < i) ∧ L e b = some v)
    ⟨_, _, _, _, rfl, g11, B0, fun b => ⟨fun h => (by cases h), fun ⟨e, v, ⟨h1, h2⟩, _⟩ => by simp at h2; omega⟩⟩ (fun _ _ _ _ _ => trivial) ?_ ?_
  · rintro i y σ H0' Ha hi ⟨x4, x5, x6, f, rfl, ga, Ba, hfa⟩ ⟨rfl, rfl⟩
    have hi4 : i < 4 := hi
    have hE : Env (0 + (i : Int)) := ⟨by omega, by omega⟩
    have hfr2 : ∀ b, f b = true → 0 ≤ b ∧ b < n := fun b hb => by
      obtain ⟨e, v, h1, h2⟩ := (hfa b).mp hb
      exact l_rng hn0.1 ⟨h1.1, by omega⟩ (hL e ⟨h1.1, by omega⟩) h2
    refine ⟨_, rfl, x, _, _, rfl, Ba.ins, rfl, _, rfl, rfl, _, n, _, _, rfl, Ba, bas0 hW hfr2, hE, fun v Hb gb hf => ?_⟩
    obtain ⟨p, kvs, rfl, hp0, hp1, hm1, hr1⟩ := FoR.is hf (hL _ hE)
    refine ⟨p, kvs, rfl, hp1, fun od => ?_⟩
    have gp : Go [p] Hb (upd Hb p (.frz od (.dK kvs))) := Go.lock0 hp1 trivial
    have gc : Go [] Ha (upd Hb p (.frz od (.dK kvs))) := gb.late hp0
    have hpc : upd Hb p (.frz od (.dK kvs)) p = some (.frz od (.dK kvs)) := upd_same
    generalize upd Hb p (.frz od (.dK kvs)) = Hc at gp gc hpc ⊢
    refine for_it wk_keys (fun j σ H' => ∃ x5 f', σ = [some (.ref x), some (.ref dk), some (.ref sp), some (.ref ty), some (.int (0 + (i : Int))), x5, x6] ∧ Go [x] H H' ∧ H' p = some (.frz od (.dK kvs)) ∧ BlkAt K ⟨x, dx, dk, dxd, ty, dxt, he, wa, sh, kn, mk, bu, ke, fr⟩ H' n (s0 W f') ∧ ∀ b, f' b = true ↔ (f b = true ∨ (Sum.inl b : Key) ∈ (kvs.take j).map (fun p : Key × V => p.1)))
      ⟨_, f, rfl, ga.trans gc.lift, hpc, Ba.go gc, fun b => by simp⟩ (fun i σ H' _ p => by obtain ⟨_, _, _, _, h, _⟩ := p; exact h) ?_ ?_
    · rintro j y σ Hd' Hd hj ⟨x5', f', rfl, gd, hpd, Bd, hfd⟩ ⟨rfl, k, v, hkv, rfl⟩
      obtain ⟨b, y, rfl, hb, _⟩ := hm1.at hkv
      obtain ⟨hnt, htk⟩ := nd_take hm1.nd hkv
      obtain ⟨kf, k1, k2⟩ := Bd.freshD
      have hkl : kf.length ≤ 64 := k2.len (n := 64) fun b' x' hb' => by
        have hb2 : f' b' = true := by
          have hb3 : (if f' b' = true then some () else none) = some x' := hb'
          split at hb3
          · assumption
          · cases hb3
        rcases (hfd b').mp hb2 with z | z
        · have := hfr2 b' z
          omega
        · obtain ⟨pp, hpp, e1⟩ := List.mem_map.mp z
          obtain ⟨b2, x2, e2, e3, _⟩ := hm1.snd pp.1 pp.2 (val_nodup hm1.nd pp (List.mem_of_mem_take hpp))
          rw [e1] at e2
          cases e2
          have := hr1 b' x2 e3
          omega
      refine ⟨_, rfl, _, _, _, _, _, rfl, Bd.ins, T.k_Blocks, T.na_Blocks_fresh, rfl, _, rfl, fr, _, rfl, DPut.k (k := Sum.inl b) k1 (lt_sl (by omega)), ?_⟩
      have m6 : MapR (putK kf (.inl b) (.bl true)) (frM fun y => f' y || decide (y = b)) FrV := (k2.put (b := b) (x := ()) (v := .bl true) rfl).congr fun y => by
        show (if (f' y || decide (y = b)) = true then some () else none) = setO (frM f') b (some ()) y
        by_cases e1 : y = b
        · subst e1
          rw [setO_same, if_pos (by simp)]
        · rw [setO_ne e1]
          show _ = (if f' y = true then some () else none)
          simp [e1]
      obtain ⟨g6, B6⟩ := Bd.setFr m6
      have npf : p ≠ fr := ne_of hpd k1 (by simp)
      refine ⟨_, _, rfl, gd.late hfr0, by rw [upd_ne npf]; exact hpd, B6, fun y => ?_⟩
      show (f' y || decide (y = b)) = true ↔ _
      rw [Bool.or_eq_true, hfd, htk]
      simp only [decide_eq_true_eq, List.mem_append, List.mem_singleton]
      constructor
      · rintro ((h | h) | h)
        · exact .inl h
        · exact .inr (.inl h)
        · exact .inr (.inr (by rw [h]))
      · rintro (h | h | h)
        · exact .inl (.inl h)
        · exact .inl (.inr h)
        · exact .inr (Sum.inl.inj h)
    · rintro σ Hd ⟨x5', f', rfl, gd, hpd, Bd, hfd⟩
      rw [List.take_length] at hfd
      refine ⟨_, _, _, f', rfl, gd, Bd, fun b => ?_⟩
      rw [hfd, hfa]
      constructor
      · rintro (⟨e, v, ⟨h1, h2⟩, h3⟩ | h)
        · exact ⟨e, v, ⟨h1, by omega⟩, h3⟩
        · obtain ⟨pp, hpp, e1⟩ := List.mem_map.mp h
          obtain ⟨b2, x2, e2, e3, _⟩ := hm1.snd pp.1 pp.2 (val_nodup hm1.nd pp hpp)
          rw [e1] at e2
          cases e2
          exact ⟨_, x2, ⟨by omega, by omega⟩, e3⟩
      · rintro ⟨e, v, ⟨h1, h2⟩, h3⟩
        by_cases hei : e < i
        · exact .inl ⟨e, v, ⟨h1, hei⟩, h3⟩
        · have ee : e = 0 + (i : Int) := by omega
          rw [ee] at h3
          obtain ⟨u, hu⟩ := hm1.cpl b v h3
          exact .inr (valV_in hu)
  · rintro σ Ha ⟨x4, x5, x6, f, rfl, ga, Ba, hfa⟩
    refine q _ sh bu ke fr f ga hsh0 hbu0 hke0 hfr0 Ba fun b => ?_
    rw [hfa]
    constructor
    · rintro ⟨e, v, ⟨h1, h2⟩, h3⟩
      exact ⟨e, v, ⟨h1, h2⟩, h3⟩
    · rintro ⟨e, v, ⟨h1, h2⟩, h3⟩
      exact ⟨e, v, ⟨h1, h2⟩, h3⟩
end

end SH

set_option Elab.async false
set_option linter.all false
set_option maxRecDepth 100000
set_option maxHeartbeats 4000000
namespace SH
open PySem PySem.Spec PyProof.Rows L2
/-- what a request leaves -/
def After (K : PySem.W.Frag) (A : Ad) (n : Int) (H H' : Hp) : Prop := Go A.mut H H' ∧ ∃ s' L' M' C', BlkAt K A H' n s' ∧ InvB n gdF s' L' M' C'
section
variable {K : PySem.W.Frag} {A : Ad} {H H' H2 : Hp} {n : Int} {s s' : St} {L M C L' M' C' : Int → Mp}
theorem After.same (B : BlkAt K A H n s) (I : InvB n gdF s L M C) (g : Go [] H H') : After K A n H H' := ⟨g.lift, s, L, M, C, B.go g, I⟩
theorem After.of (g : Go A.mut H H') (B : BlkAt K A H' n s') (I : InvB n gdF s' L' M' C') : After K A n H H' := ⟨g, s', L', M', C', B, I⟩
theorem mut_bu : ∀ a ∈ [A.bu], a ∈ A.mut := by simp [Ad.mut]
theorem mut_ke : ∀ a ∈ [A.ke], a ∈ A.mut := by simp [Ad.mut]
theorem mut_fr : ∀ a ∈ [A.fr], a ∈ A.mut := by simp [Ad.mut]
theorem mut_wa : ∀ a ∈ [A.wa], a ∈ A.mut := by simp [Ad.mut]
theorem mut_hw : ∀ a ∈ [A.he, A.wa], a ∈ A.mut := by simp [Ad.mut]
theorem BlkAt.there (B : BlkAt K A H n s) : ∀ a ∈ A.all, ∃ o, H a = some o := by
  obtain ⟨hs, h1, _⟩ := B.disk.heldL
  obtain ⟨ws, w1, _⟩ := B.disk.waL
  obtain ⟨ms, t⟩ := B.types
  obtain ⟨ks, t1, _⟩ := t.knL
  obtain ⟨k1, b1, _⟩ := B.bufD
  obtain ⟨k2, b2, _⟩ := B.keptD
  obtain ⟨k3, b3, _⟩ := B.freshD
  intro a ha
  simp only [Ad.all, List.mem_cons, List.not_mem_nil, or_false] at ha
  rcases ha with e | e | e | e | e | e | e | e | e | e | e <;> subst e
  · exact ⟨_, B.ins⟩
  · exact ⟨_, B.disk.ins⟩
  · exact ⟨_, h1⟩
  · exact ⟨_, w1⟩
  · exact ⟨_, t.ins⟩
  · exact ⟨_, t1⟩
  · exact ⟨_, t.mkL⟩
  · exact ⟨_, B.shL⟩
  · exact ⟨_, b1⟩
  · exact ⟨_, b2⟩
  · exact ⟨_, b3⟩
theorem BlkAt.newA (B : BlkAt K A H n s) {p : Addr} (h : H p = none) : p ∉ A.all := fun m => by
  obtain ⟨o, e⟩ := B.there p m
  rw [h] at e; cases e
theorem qlen (b : Bas n s) (hn : n ≤ 64) : s.queue.length ≤ 64 := by
  have q := nodup_le (l := s.queue.map Op.blk) (m := (List.range 64).map fun (i : Nat) => (i : Int)) b.qnd fun x hx => by
    obtain ⟨op, hop, e⟩ := List.mem_map.mp hx
    have := (b.queue op hop).2
    rw [e] at this
    exact List.mem_map.mpr ⟨x.toNat, List.mem_range.mpr (by omega), by omega⟩
  simpa using q
theorem frM_put {f : Int → Bool} {b y : Int} : frM (setB f b true) y = setO (frM f) b (some ()) y := by
  unfold frM
  by_cases h : y = b
  · subst h
    rw [setB_same, setO_same]
    rfl
  · rw [setB_ne h, setO_ne h]
theorem frM_drop {f : Int → Bool} {b y : Int} : frM (setB f b false) y = setO (frM f) b none y := by
  unfold frM
  by_cases h : y = b
  · subst h
    rw [setB_same, setO_same]
    rfl
  · rw [setB_ne h, setO_ne h]
theorem fr_len {kvs : List (Key × V)} (b : Bas n s) (hn : n ≤ 64) (m : MapR kvs (frM s.fresh) FrV) : kvs.length ≤ 64 := m.len (n := 64) fun x u h => by
  have h2 : s.fresh x = true := by
    have h3 : (if s.fresh x = true then some () else none) = some u := h
    split at h3
    · assumption
    · cases h3
  have := b.fresh x h2
  omega
theorem bu_len {kvs : List (Key × V)} {R : Int × Wd → V → Prop} (b : Bas n s) (hn : n ≤ 64) (m : MapR kvs s.buf R) : kvs.length ≤ 64 := m.len (n := 64) fun x u h => by
  have := (b.buf x u.1 u.2 h).2
  omega
theorem ke_len {kvs : List (Key × V)} {R : Int × Option Int → V → Prop} (b : Bas n s) (hn : n ≤ 64) (m : MapR kvs s.kept R) : kvs.length ≤ 64 := m.len (n := 64) fun x u h => by
  have := (b.kept x u.1 u.2 h).2
  omega
theorem erase_mem {q : List Op} (h : (q.map Op.blk).Nodup) {j : Nat} {o : Op} (hj : q[j]? = some o) (op : Op) : op ∈ q.eraseIdx j ↔ op ∈ q ∧ op.blk ≠ o.blk := by
  induction q generalizing j with
  | nil => simp at hj
  | cons a r ih =>
    rw [List.map_cons] at h
    obtain ⟨h1, h2⟩ := List.nodup_cons.mp h
    cases j with
    | zero =>
      have : a = o := Option.some.inj hj
      subst this
      show op ∈ r ↔ _
      constructor
      · intro m
        exact ⟨List.mem_cons_of_mem _ m, fun e => h1 (List.mem_map.mpr ⟨op, m, e⟩)⟩
      · rintro ⟨m, e⟩
        rcases List.mem_cons.mp m with z | z
        · exact absurd (by rw [z]) e
        · exact z
    | succ j =>
      have hj' : r[j]? = some o := by simpa using hj
      show op ∈ a :: r.eraseIdx j ↔ _
      rw [List.mem_cons, ih h2 hj', List.mem_cons]
      constructor
      · rintro (z | ⟨z1, z2⟩)
        · refine ⟨.inl z, fun e => h1 ?_⟩
          rw [z] at e
          rw [e]
          exact List.mem_map.mpr ⟨o, List.mem_of_getElem? hj', rfl⟩
        · exact ⟨.inr z1, z2⟩
      · rintro ⟨z | z, e⟩
        · exact .inl z
        · exact .inr ⟨z, e⟩
theorem erase_nd {q : List Op} (h : (q.map Op.blk).Nodup) (j : Nat) : ((q.eraseIdx j).map Op.blk).Nodup := h.sublist ((List.eraseIdx_sublist q j).map _)
end
def sp_Blocks_do (K : PySem.W.Frag) : Sp := fun vs H Q _ => vs.length = 2 ∧ ∃ A n s L M C i, vs = [.ref A.bl, .int i] ∧ BlkAt K A H n s ∧ InvB n gdF s L M C ∧ 0 ≤ i ∧ i < 4 ∧ ∀ v H', After K A n H H' → Q v H'
section
variable {P : Program} {w : World} {K : PySem.W.Frag} {mg : Str → Option Value} {base : Heap}
theorem ok_Blocks_do (T : Txt w K mg) (c_Blocks_memory_forest : C8.Met P w K mg base 5 (He.ga K "Blocks") "memory_forest" (sp_Blocks_memory_forest K) []) (c_Disk_do : C8.Met P w K mg base 1 (He.ga K "Disk") "do" (sp_Disk_do K) []) : C8.Met P w K mg base 6 (He.ga K "Blocks") "do" (sp_Blocks_do K) [] := by
  refine met_go T.f_Blocks_do T.k_Blocks T.me_Blocks_do sc_Blocks_do (fun _ _ _ _ _ _ us hl => match us, hl with | [_, _], _ => rfl) (fun _ _ _ _ h => h.1) fun cdv A outer s H vs Q E hr h => ?_
  have hu := hu_of hr
  refine ⟨_, (pss_cons (ps_set (i := 2) sc_Blocks_do.nd rfl (by first | exact Or.inl rfl | exact Or.inr rfl) (C8.pe_mt c_Disk_do hr (by decide) (pe_fldK K rfl (pv 0) rfl) (pa_cons (pv 1) pa_nil)))
    (pss_cons (ps_if (pt_cmpR op_isN (pv 2) pe_non (nomark _)) (pss_one (ps_ret pe_bl)) pss_nil)
    (pss_cons (ps_asg (pv 2) (pg_tupK K (n := 2) rfl rfl (pgs_cons (pg_name (i := 3) sc_Blocks_do.nd rfl (by first | exact Or.inl rfl | exact Or.inr rfl)) (pgs_cons (pg_name (i := 4) sc_Blocks_do.nd rfl (by first | exact Or.inl rfl | exact Or.inr rfl)) pgs_nil))))
    (pss_cons (ps_par (i := 5) (j := 6) (by rfl) sc_Blocks_do.nd rfl rfl (by decide) rfl rfl (pa_cons (pe_ix (show IxR _ (rIxT K) from ix_tup) (pv 3) pe_int (fun _ _ => rfl)) (pa_cons (pe_ix (show IxR _ (rIxT K) from ix_tup) (pv 3) (pe_un un_neg pe_int) (fun _ _ => rfl)) pa_nil)) (by rfl))
    (pss_cons (ps_if (pt_cmpR op_eq (pe_ix (show IxR _ (rIxT K) from ix_tup) (pv 3) pe_int (fun _ _ => rfl)) pe_str (nomark _)) (pss_one (ps_dput hu (pe_fldK K rfl (pv 0) rfl) (pv 5) pe_bl rfl)) (pss_one (ps_if (PW.pt (pw_and (pt_cmp (pc_din hu (pv 5) (C8.pe_mt c_Blocks_memory_forest hr (by decide) (pv 0) (pa_cons (pv 6) pa_nil)))) (pw_and1 (pt_cmp (pc_dnotin hu (pv 5) (pe_fldK K rfl (pv 0) rfl)))))) (pss_one (ps_dput hu (pe_fldK K rfl (pv 0) rfl) (pv 5) (pe_tup (pa_cons (pv 6) (pa_cons (pv 4) pa_nil))) rfl)) pss_nil)))
    (pss_one (ps_ret pe_bl))))))), ?_⟩
  obtain ⟨_, A, n, s, L, M, C, i, rfl, B, I, hi0, hi4, q⟩ := h
  have hn0 := B.disk.n0
  have hbas := I.bas
  refine ⟨_, rfl, _, _, _, _, _, rfl, B.ins, T.k_Blocks, T.na_Blocks_disk, rfl, A.dk, _, _, rfl, B.disk.ins, rfl, _, rfl, rfl, A.dk, A.dxd, A.he, A.wa, n, s.held, s.queue, i, rfl, B.disk, hi0, hi4, fun o ho => (I.bas.queue o ho).2, fun hq => ?_, fun j o v H1 hj g1 D1 hr => ?_⟩
  · exact ⟨_, rfl, rfl, true, rfl, q _ _ (After.same B I Go.refl)⟩
  have B1 := B.newDisk g1 D1
  have hin : o ∈ s.queue := List.mem_of_getElem? hj
  obtain ⟨vo, u, ⟨t, rfl, ht⟩, hvo, hu⟩ := hr
  refine ⟨_, rfl, rfl, false, congrArg V.bl (decide_eq_false (by simp)), ?_⟩
  refine ⟨_, rfl, t, _, rfl, ht, rfl, _, _, rfl, _, _, rfl, rfl, ?_⟩
  have hmem := erase_mem hbas.qnd hj
  have hnd := erase_nd hbas.qnd j
  cases o with
  | wr b w e =>
    obtain ⟨u', ⟨a, rfl, ha⟩, hu'⟩ := hvo
    refine ⟨_, rfl, a, _, 1, _, rfl, rfl, ha, rfl, _, rfl, 1, rfl, a, _, -1, _, rfl, rfl, ha, rfl, _, _, rfl, ?_⟩
    refine ⟨_, rfl, a, _, 0, _, rfl, rfl, ha, rfl, rfl, true, rfl, ?_⟩
    obtain ⟨kf, k1, k2⟩ := B1.freshD
    have hkl := fr_len hbas hn0.2 k2
    refine ⟨_, rfl, _, _, _, _, _, rfl, B1.ins, T.k_Blocks, T.na_Blocks_fresh, rfl, _, rfl, A.fr, _, rfl, DPut.k (k := Sum.inl b) k1 (lt_sl (by omega)), ?_⟩
    obtain ⟨g2, B2⟩ := B1.setFr (f := setB s.fresh b true) ((k2.put (b := b) (x := ()) (v := .bl true) rfl).congr fun y => frM_put)
    obtain ⟨L', C', I'⟩ := I.doW (by omega) hin hmem hnd
    exact q _ _ (After.of ((g1.mono mut_hw).trans (g2.mono mut_fr)) B2 I')
  | rd b e =>
    obtain ⟨a, rfl, ha⟩ := hvo
    have I1 := I.doR hin hmem hnd
    have B1 : BlkAt K A H1 n { s with queue := s.queue.eraseIdx j } := B1
    have he : Env e := (hbas.queue _ hin).1
    have hfr : s.fresh b = true := I.rds b e hin
    refine ⟨_, rfl, a, _, 1, _, rfl, rfl, ha, rfl, _, rfl, 1, rfl, a, _, -1, _, rfl, rfl, ha, rfl, _, _, rfl, ?_⟩
    refine ⟨_, rfl, a, _, 0, _, rfl, rfl, ha, rfl, rfl, false, rfl, ?_⟩
    refine ⟨_, rfl, _, rfl, A.bl, _, _, rfl, B1.ins, rfl, _, rfl, rfl, A, n, _, e, rfl, B1, I1.bas, he, fun v H2 g2 hf => ?_⟩
    obtain ⟨p, kvs, rfl, hp0, hp1, hm1, hr1⟩ := hf.is (I1.mf e he)
    have B2 := B1.go g2
    refine ⟨p, _, rfl, DGet.k (k := Sum.inl b) hp1, _, rfl, ?_⟩
    rw [hm1.isSome]
    have g12 : Go A.mut H H2 := (g1.mono mut_hw).trans g2.lift
    cases hMb : M e b with
    | none => exact q _ _ (After.of g12 B2 I1)
    | some x =>
      obtain ⟨kb, k1, k2⟩ := B2.bufD
      refine ⟨_, rfl, _, rfl, _, _, _, _, _, rfl, B2.ins, T.k_Blocks, T.na_Blocks_buffers, rfl, A.bu, _, rfl, DGet.k (k := Sum.inl b) k1, _, rfl, ?_⟩
      rw [k2.isSome]
      cases hbb : s.buf b with
      | some y => exact q _ _ (After.of g12 B2 I1)
      | none =>
        have hkl := bu_len I1.bas hn0.2 k2
        refine ⟨_, rfl, _, rfl, (by decide : 2 ≤ sizeLine), fun r hr => ?_⟩
        have g3 : Go [] H2 (upd H2 r (.tup [.int e, u])) := Go.new hr
        have h3 : SqT K (upd H2 r (.tup [.int e, u])) r [.int e, u] := .inl (.inl upd_same)
        have B3 := B2.go g3
        have k13 := g3.at k1
        generalize upd H2 r (.tup [.int e, u]) = H3 at g3 h3 B3 k13 ⊢
        refine ⟨_, rfl, _, _, _, _, _, rfl, B3.ins, T.k_Blocks, T.na_Blocks_buffers, rfl, _, rfl, A.bu, _, rfl, DPut.k (k := Sum.inl b) k13 (lt_sl (by omega)), ?_⟩
        obtain ⟨g4, B4⟩ := B3.setBu ((k2.mono fun _ _ _ _ z => z.go g3).put (b := b) (x := (e, s.held b)) (v := .ref r) ⟨u, ⟨r, rfl, h3⟩, (hu.go g2).go g3⟩)
        have I4 := I1.gotR (by omega) he (b := b) (fun k hk hk0 => by
          subst hk0
          have := (I.keptN b e hk).1
          rw [hfr] at this
          cases this) (fun w f hw => ((hmem _).mp hw).2 rfl) hfr hMb hbb
        exact q _ _ (After.of (g12.trans (g3.lift.trans (g4.mono mut_bu))) B4 I4)
end
def sp_Blocks_reserve (K : PySem.W.Frag) : Sp := fun vs H Q _ => vs.length = 2 ∧ ∃ A n s L M C e, vs = [.ref A.bl, .int e] ∧ BlkAt K A H n s ∧ InvB n gdF s L M C ∧ Env e ∧ ∀ v H', After K A n H H' → Q v H'
section
variable {P : Program} {w : World} {K : PySem.W.Frag} {mg : Str → Option Value} {base : Heap}
theorem ok_Blocks_reserve (T : Txt w K mg) (c_no : C8.Cal P w K mg base 1 "no" (sp_no K) []) (c_Blocks_free : C8.Met P w K mg base 8 (He.ga K "Blocks") "free" (sp_Blocks_free K) []) (c_Blocks_may_reserve : C8.Met P w K mg base 9 (He.ga K "Blocks") "may_reserve" (sp_Blocks_may_reserve K) []) : C8.Met P w K mg base 10 (He.ga K "Blocks") "_reserve" (sp_Blocks_reserve K) [] := by
  refine met_go T.f_Blocks_reserve T.k_Blocks T.me_Blocks_reserve sc_Blocks_reserve (fun _ _ _ _ _ _ us hl => match us, hl with | [_, _], _ => rfl) (fun _ _ _ _ h => h.1) fun cdv A outer s H vs Q E hr h => ?_
  have hu := hu_of hr
  refine ⟨_, (pss_cons (ps_if (pt_not (pt_val (C8.pe_mt c_Blocks_may_reserve hr (by decide) (pv 0) (pa_cons (pv 1) pa_nil)))) (pss_one (ps_ret (C8.pe_c c_no hr (by decide) (by rfl) (pa_cons pe_str pa_nil)))) pss_nil)
    (pss_cons (ps_set (i := 2) sc_Blocks_reserve.nd rfl (by first | exact Or.inl rfl | exact Or.inr rfl) (pe_ix (show IxR _ (rIxL K) from ix_list) (C8.pe_mt0 c_Blocks_free hr (by decide) (pv 0)) pe_int (fun _ _ => rfl)))
    (pss_cons (ps_dput hu (pe_fldK K rfl (pv 0) rfl) (pv 2) (pe_tup (pa_cons (pv 1) (pa_cons pe_non pa_nil))) rfl)
    (pss_cons (ps_expr (pe_dpop2 (pe_fldK K rfl (pv 0) rfl) (pv 2) pe_non ⟨rfl, rfl, rfl, rfl⟩))
    (pss_one (ps_ret (pe_tup (pa_cons pe_str (pa_cons (pv 2) pa_nil))))))))), ?_⟩
  obtain ⟨_, A, n, s, L, M, C, e, rfl, B, I, he, q⟩ := h
  have hn0 := B.disk.n0
  have hbas := I.bas
  refine ⟨_, rfl, A.bl, _, _, rfl, B.ins, rfl, _, rfl, rfl, A, n, s, e, L, M, C, rfl, B, I, he, fun r H1 g1 hr => ⟨_, rfl, ?_⟩⟩
  have B1 := B.go g1
  cases r with
  | false => exact ⟨rfl, _, rfl, fun p H' _ g => q _ _ (After.same B I (g1.trans g))⟩
  | true =>
    obtain ⟨b0, hb0, hb1⟩ := hr rfl
    refine ⟨_, rfl, A.bl, _, _, rfl, B1.ins, rfl, rfl, A, n, s, L, M, C, rfl, B1, I, fun p ns H2 g2 hp0 hp hmem => ?_⟩
    have hin0 := (hmem b0).mpr ⟨hb0, hb1⟩
    cases ns with
    | nil => cases hin0
    | cons b r =>
      obtain ⟨⟨h4, hbn⟩, hfree⟩ := (hmem b).mp List.mem_cons_self
      have B2 := B1.go g2
      refine ⟨p, _, 0, _, rfl, rfl, .inl (.inl hp), atI_of (by omega) rfl, ?_⟩
      refine ⟨_, rfl, (by decide : 2 ≤ sizeLine), fun t ht => ?_⟩
      have g3 : Go [] H2 (upd H2 t (.tup [.int e, .non])) := Go.new ht
      have h3 : SqT K (upd H2 t (.tup [.int e, .non])) t [.int e, .non] := .inl (.inl upd_same)
      have B3 := B2.go g3
      generalize upd H2 t (.tup [.int e, .non]) = H3 at g3 h3 B3 ⊢
      obtain ⟨kk, k1, k2⟩ := B3.keptD
      have hkl := ke_len hbas hn0.2 k2
      refine ⟨_, rfl, _, _, _, _, _, rfl, B3.ins, T.k_Blocks, T.na_Blocks_kept, rfl, _, rfl, A.ke, _, rfl, DPut.k (k := Sum.inl b) k1 (lt_sl (by omega)), ?_⟩
      obtain ⟨g4, B4⟩ := B3.setKe (k2.put (b := b) (x := (e, none)) (v := .ref t) ⟨t, rfl, h3⟩)
      generalize upd H3 A.ke (.dK (putK kk (.inl b) (.ref t))) = H4 at g4 B4 ⊢
      obtain ⟨kf, f1, f2⟩ := B4.freshD
      have gg : Go A.mut H H4 := g1.lift.trans (g2.lift.trans (g3.lift.trans (g4.mono mut_ke)))
      have fin : ∀ H5 v, Go A.mut H4 H5 → BlkAt K A H5 n { s with kept := setO s.kept b (some (e, none)), fresh := setB s.fresh b false } → Q v H5 := fun H5 v g5 B5 => q _ _ (After.of (gg.trans g5) B5 (I.reserve he h4 hbn hfree))
      refine ⟨_, rfl, _, _, _, _, _, rfl, B4.ins, T.k_Blocks, T.na_Blocks_fresh, rfl, A.fr, rfl, .inl ⟨_, .inl f1⟩, _, rfl, kf, Sum.inl b, f1, rfl, fun v hv => ?_, fun hv => ?_⟩
      · obtain ⟨g5, B5⟩ := B4.setFr (f := setB s.fresh b false) ((f2.drop (b := b)).congr fun y => frM_drop)
        refine ⟨_, rfl, (by decide : 2 ≤ sizeLine), fun t5 ht5 => ?_⟩
        exact fin _ _ ((g5.mono mut_fr).trans (Go.new ht5)) (B5.go (Go.new ht5))
      · have hfb : s.fresh b = false := by
          have := f2.isSome (b := b)
          rw [hv] at this
          unfold frM at this
          cases hh : s.fresh b with
          | false => rfl
          | true => rw [hh] at this; cases this
        have eqf : setB s.fresh b false = s.fresh := by
          funext y
          by_cases h : y = b
          · subst h
            rw [setB_same, hfb]
          · rw [setB_ne h]
        refine ⟨_, rfl, (by decide : 2 ≤ sizeLine), fun t5 ht5 => ?_⟩
        refine fin _ _ (Go.new ht5) ?_
        rw [eqf]
        exact B4.go (Go.new ht5)
end
def sp_Blocks_unreserve (K : PySem.W.Frag) : Sp := fun vs H Q _ => vs.length = 3 ∧ ∃ A n s L M C e b, vs = [.ref A.bl, .int e, .int b] ∧ BlkAt K A H n s ∧ InvB n gdF s L M C ∧ Env e ∧ ∀ v H', After K A n H H' → Q v H'
section
variable {P : Program} {w : World} {K : PySem.W.Frag} {mg : Str → Option Value} {base : Heap}
theorem ok_Blocks_unreserve (T : Txt w K mg) (c_no : C8.Cal P w K mg base 1 "no" (sp_no K) []) (c_Blocks_holds : C8.Met P w K mg base 1 (He.ga K "Blocks") "_holds" (sp_Blocks_holds K) []) (c_Blocks_owns_something : C8.Met P w K mg base 6 (He.ga K "Blocks") "_owns_something" (sp_Blocks_owns_something K) []) (c_Disk_waits : C8.Met P w K mg base 1 (He.ga K "Disk") "waits" (sp_Disk_waits K) []) : C8.Met P w K mg base 7 (He.ga K "Blocks") "_unreserve" (sp_Blocks_unreserve K) [] := by
  refine met_go T.f_Blocks_unreserve T.k_Blocks T.me_Blocks_unreserve sc_Blocks_unreserve (fun _ _ _ _ _ _ us hl => match us, hl with | [_, _, _], _ => rfl) (fun _ _ _ _ h => h.1) fun cdv A outer s H vs Q E hr h => ?_
  refine ⟨_, (pss_cons (ps_if (pt_not (pt_val (C8.pe_mt c_Blocks_holds hr (by decide) (pv 0) (pa_cons (pv 1) (pa_cons (pv 2) pa_nil))))) (pss_one (ps_ret (C8.pe_c c_no hr (by decide) (by rfl) (pa_cons pe_str pa_nil)))) pss_nil)
    (pss_cons (ps_if (pt_val (C8.pe_mt c_Disk_waits hr (by decide) (pe_fldK K rfl (pv 0) rfl) (pa_cons (pv 2) pa_nil))) (pss_one (ps_ret (C8.pe_c c_no hr (by decide) (by rfl) (pa_cons pe_str pa_nil)))) pss_nil)
    (pss_cons (ps_if (pt_val (C8.pe_mt c_Blocks_owns_something hr (by decide) (pv 0) (pa_cons (pv 1) (pa_cons (pv 2) pa_nil)))) (pss_one (ps_ret (C8.pe_c c_no hr (by decide) (by rfl) (pa_cons pe_str pa_nil)))) pss_nil)
    (pss_cons (ps_expr (pe_dpop1 (pe_fldK K rfl (pv 0) rfl) (pv 2) ⟨rfl, rfl, rfl, rfl⟩))
    (pss_cons (ps_expr (pe_dpop2 (pe_fldK K rfl (pv 0) rfl) (pv 2) pe_non ⟨rfl, rfl, rfl, rfl⟩))
    (pss_one (ps_ret (pe_tup (pa_cons pe_str (pa_cons pe_non pa_nil)))))))))), ?_⟩
  obtain ⟨_, A, n, s, L, M, C, e, b, rfl, B, I, he, q⟩ := h
  have hn0 := B.disk.n0
  have hbas := I.bas
  refine ⟨_, rfl, A.bl, _, _, rfl, B.ins, rfl, _, rfl, _, rfl, rfl, A, n, s, e, b, rfl, B, _, rfl, ?_⟩
  cases hh : holdB s e b with
  | false => exact ⟨rfl, _, rfl, fun p H' _ g => q _ _ (After.same B I g)⟩
  | true =>
    obtain ⟨k0, hk0⟩ : ∃ k0, s.kept b = some (e, k0) := by
      unfold holdB at hh
      cases hb : s.kept b with
      | none => rw [hb] at hh; cases hh
      | some p =>
        rw [hb] at hh
        obtain ⟨f, k⟩ := p
        have : f = e := of_decide_eq_true hh
        exact ⟨k, by rw [this]⟩
    refine ⟨_, rfl, _, _, _, _, _, rfl, B.ins, T.k_Blocks, T.na_Blocks_disk, rfl, A.dk, _, _, rfl, B.disk.ins, rfl, _, rfl, rfl, A.dk, A.dxd, A.he, A.wa, n, s.held, s.queue, b, rfl, B.disk, fun H1 g1 => ⟨_, rfl, ?_⟩⟩
    have B1 := B.go g1
    by_cases hw : ∃ op ∈ s.queue, op.blk = b
    · rw [decide_eq_true hw]
      exact ⟨rfl, _, rfl, fun p H' _ g => q _ _ (After.same B I (g1.trans g))⟩
    · rw [decide_eq_false hw]
      refine ⟨_, rfl, A.bl, _, _, rfl, B1.ins, rfl, _, rfl, _, rfl, rfl, A, n, s, e, b, L, M, C, rfl, B1, I, he, fun r H2 g2 hr => ⟨_, rfl, ?_⟩⟩
      have B2 := B1.go g2
      cases r with
      | true => exact ⟨rfl, _, rfl, fun p H' _ g => q _ _ (After.same B I (g1.trans (g2.trans g)))⟩
      | false =>
        obtain ⟨kk, k1, k2⟩ := B2.keptD
        obtain ⟨v0, hv0, _⟩ := k2.gets hk0
        refine ⟨_, rfl, _, _, _, _, _, rfl, B2.ins, T.k_Blocks, T.na_Blocks_kept, rfl, A.ke, rfl, .inl ⟨_, .inl k1⟩, _, rfl, kk, Sum.inl b, v0, k1, rfl, hv0, ?_⟩
        obtain ⟨g3, B3⟩ := B2.setKe (k2.drop (b := b))
        generalize upd H2 A.ke (.dK (dropK kk (.inl b))) = H3 at g3 B3 ⊢
        have gg : Go A.mut H H3 := g1.lift.trans (g2.lift.trans (g3.mono mut_ke))
        have I3 := I.unreserve hk0 (fun op hop e1 => hw ⟨op, hop, e1⟩) (fun c o k hc ho => by
          have : (false : Bool) = true := hr.mpr ⟨c, k, by rw [← ho]; exact hc⟩
          cases this)
        obtain ⟨kb, b1, b2⟩ := B3.bufD
        refine ⟨_, rfl, _, _, _, _, _, rfl, B3.ins, T.k_Blocks, T.na_Blocks_buffers, rfl, A.bu, rfl, .inl ⟨_, .inl b1⟩, _, rfl, kb, Sum.inl b, b1, rfl, fun v hv => ?_, fun hv => ?_⟩
        · obtain ⟨g4, B4⟩ := B3.setBu (b2.drop (b := b))
          refine ⟨(by decide : 2 ≤ sizeLine), fun t5 ht5 => ?_⟩
          exact q _ _ (After.of (gg.trans ((g4.mono mut_bu).trans (Go.new ht5))) (B4.go (Go.new ht5)) I3)
        · have hbb : s.buf b = none := by
            have h2 := b2.isSome (b := b)
            rw [hv] at h2
            have h2 : false = (s.buf b).isSome := h2
            cases hh : s.buf b with
            | none => rfl
            | some y => rw [hh] at h2; cases h2
          have eqf : setO s.buf b none = s.buf := by
            funext y
            by_cases h : y = b
            · subst h
              rw [setO_same, hbb]
            · rw [setO_ne h]
          refine ⟨(by decide : 2 ≤ sizeLine), fun t5 ht5 => ?_⟩
          have I4 := I3
          rw [eqf] at I4
          exact q _ _ (After.of (gg.trans (Go.new ht5)) (B3.go (Go.new ht5)) I4)
end
def sp_Blocks_fill (K : PySem.W.Frag) : Sp := fun vs H Q _ => vs.length = 4 ∧ ∃ A n s L M C e b k, vs = [.ref A.bl, .int e, .int b, .int k] ∧ BlkAt K A H n s ∧ InvB n gdF s L M C ∧ Env e ∧ ∀ v H', After K A n H H' → Q v H'
section
variable {P : Program} {w : World} {K : PySem.W.Frag} {mg : Str → Option Value} {base : Heap}
theorem ok_Blocks_fill (T : Txt w K mg) (c_no : C8.Cal P w K mg base 1 "no" (sp_no K) []) (c_Blocks_holds : C8.Met P w K mg base 1 (He.ga K "Blocks") "_holds" (sp_Blocks_holds K) []) (c_Types_is_known : C8.Met P w K mg base 2 (He.ga K "Types") "is_known" (sp_Types_is_known K) []) : C8.Met P w K mg base 3 (He.ga K "Blocks") "_fill" (sp_Blocks_fill K) [] := by
  refine met_go T.f_Blocks_fill T.k_Blocks T.me_Blocks_fill sc_Blocks_fill (fun _ _ _ _ _ _ us hl => match us, hl with | [_, _, _, _], _ => rfl) (fun _ _ _ _ h => h.1) fun cdv A outer s H vs Q E hr h => ?_
  have hu := hu_of hr
  refine ⟨_, (pss_cons (ps_if (pt_not (pt_val (C8.pe_mt c_Blocks_holds hr (by decide) (pv 0) (pa_cons (pv 1) (pa_cons (pv 2) pa_nil))))) (pss_one (ps_ret (C8.pe_c c_no hr (by decide) (by rfl) (pa_cons pe_str pa_nil)))) pss_nil)
    (pss_cons (ps_if (PW.pt (pw_or (pt_not (pt_val (C8.pe_mt c_Types_is_known hr (by decide) (pe_fldK K rfl (pv 0) rfl) (pa_cons (pv 3) pa_nil)))) (pw_or1 (pt_cmpR op_eq (pv 3) (C8.pe_gc (by rfl) T.g_ROOT) (nomark _))))) (pss_one (ps_ret (C8.pe_c c_no hr (by decide) (by rfl) (pa_cons pe_str pa_nil)))) pss_nil)
    (pss_cons (ps_if (pt_cmpR op_notN (pe_ix (show IxR _ (rIxT K) from ix_tup) (pe_dget hu (pe_fldK K rfl (pv 0) rfl) (pv 2) (fun _ _ => rfl)) pe_int (fun _ _ => rfl)) pe_non (nomark _)) (pss_one (ps_ret (C8.pe_c c_no hr (by decide) (by rfl) (pa_cons pe_str pa_nil)))) pss_nil)
    (pss_cons (ps_dput hu (pe_fldK K rfl (pv 0) rfl) (pv 2) (pe_tup (pa_cons (pv 1) (pa_cons (pv 3) pa_nil))) rfl)
    (pss_cons (ps_dput hu (pe_fldK K rfl (pv 0) rfl) (pv 2) (pe_tup (pa_cons (pv 1) (pa_cons (pe_op op_repT (pe_tup (pa_cons pe_int pa_nil)) (C8.pe_gc (by rfl) T.g_WORDS)) pa_nil))) rfl)
    (pss_one (ps_ret (pe_tup (pa_cons pe_str (pa_cons pe_non pa_nil)))))))))), ?_⟩
  obtain ⟨_, A, n, s, L, M, C, e, b, k, rfl, B, I, he, q⟩ := h
  have hn0 := B.disk.n0
  have hbas := I.bas
  refine ⟨_, rfl, A.bl, _, _, rfl, B.ins, rfl, _, rfl, _, rfl, rfl, A, n, s, e, b, rfl, B, _, rfl, ?_⟩
  cases hh : holdB s e b with
  | false => exact ⟨rfl, _, rfl, fun p H' _ g => q _ _ (After.same B I g)⟩
  | true =>
    obtain ⟨k0, hk0⟩ : ∃ k0, s.kept b = some (e, k0) := by
      unfold holdB at hh
      cases hb : s.kept b with
      | none => rw [hb] at hh; cases hh
      | some p =>
        rw [hb] at hh
        obtain ⟨f, k⟩ := p
        have : f = e := of_decide_eq_true hh
        exact ⟨k, by rw [this]⟩
    obtain ⟨ms, ty⟩ := B.types
    refine ⟨_, rfl, _, _, _, _, _, rfl, B.ins, T.k_Blocks, T.na_Blocks_types, rfl, A.ty, _, _, rfl, ty.ins, rfl, _, rfl, rfl, A.ty, A.dxt, A.kn, A.mks, n, _, ms, k, rfl, ty, _, rfl, ?_⟩
    by_cases hk4 : 0 ≤ k ∧ k < 2 + (([prog2, prog3] : List (List Cl)).length : Int)
    · rw [decide_eq_true hk4]
      refine ⟨_, rfl, rfl, _, rfl, ?_⟩
      rw [dec_int]
      by_cases hk1 : k = 1
      · rw [hk1, beq_self_eq_true]
        exact ⟨rfl, _, rfl, fun p H' _ g => q _ _ (After.same B I g)⟩
      · rw [beq_eq_false_iff_ne.mpr hk1]
        have hGK : GK k := by
          have h2 : k < 4 := hk4.2
          have h3 := hk4.1
          show k = 0 ∨ k = 2 ∨ k = 3
          omega
        obtain ⟨kk, k1, k2⟩ := B.keptD
        obtain ⟨v0, hv0, t, rfl, ht⟩ := k2.gets hk0
        have dg := DGet.k (k := Sum.inl b) k1
        rw [hv0] at dg
        refine ⟨_, rfl, _, _, _, _, _, rfl, B.ins, T.k_Blocks, T.na_Blocks_kept, rfl, _, rfl, A.ke, _, rfl, dg, t, _, 1, _, rfl, rfl, ht, rfl, rfl, _, rfl, ?_⟩
        cases k0 with
        | some y =>
          rw [show (!decide (oV (some y) = V.non)) = true from by simp [oV]]
          exact ⟨rfl, _, rfl, fun p H' _ g => q _ _ (After.same B I g)⟩
        | none =>
          refine iteF ?_
          refine ⟨_, rfl, _, rfl, (by decide : 2 ≤ sizeLine), fun t1 ht1 => ?_⟩
          have g1 : Go [] H (upd H t1 (.tup [.int e, .int k])) := Go.new ht1
          have h1 : SqT K (upd H t1 (.tup [.int e, .int k])) t1 [.int e, .int k] := .inl (.inl upd_same)
          have B1 := B.go g1
          generalize upd H t1 (.tup [.int e, .int k]) = H1 at g1 h1 B1 ⊢
          obtain ⟨kk, k1, k2⟩ := B1.keptD
          have hkl := ke_len hbas hn0.2 k2
          refine ⟨_, rfl, _, _, _, _, _, rfl, B1.ins, T.k_Blocks, T.na_Blocks_kept, rfl, _, rfl, A.ke, _, rfl, DPut.k (k := Sum.inl b) k1 (lt_sl (by omega)), ?_⟩
          obtain ⟨g2, B2⟩ := B1.setKe (k2.put (b := b) (x := (e, some k)) (v := .ref t1) ⟨t1, rfl, h1⟩)
          generalize upd H1 A.ke (.dK (putK kk (.inl b) (.ref t1))) = H2 at g2 B2 ⊢
          refine ⟨_, rfl, (by decide : 1 ≤ sizeLine), fun p hp => ?_⟩
          refine ⟨p, 8, _, rfl, rfl, .inl (.inl upd_same), by simp, by decide, by decide, by simp, fun p2 hp2 => ?_⟩
          refine ⟨(by decide : 2 ≤ sizeLine), fun p3 hp3 => ?_⟩
          have g3 : Go [] H2 (upd (upd (upd H2 p (.tup [.int 0])) p2 (.tup (List.replicate (8 : Int).toNat [.int 0]).flatten)) p3 (.tup [.int e, .ref p2])) := (Go.new hp).trans ((Go.new hp2).trans (Go.new hp3))
          have hz : WdV K (upd (upd (upd H2 p (.tup [.int 0])) p2 (.tup (List.replicate (8 : Int).toNat [.int 0]).flatten)) p3 (.tup [.int e, .ref p2])) (.ref p2) zer := ⟨p2, rfl, Go.tup (Z := []) (Go.new hp3) (.inl (.inl upd_same))⟩
          have h3 : SqT K (upd (upd (upd H2 p (.tup [.int 0])) p2 (.tup (List.replicate (8 : Int).toNat [.int 0]).flatten)) p3 (.tup [.int e, .ref p2])) p3 [.int e, .ref p2] := .inl (.inl upd_same)
          have B3 := B2.go g3
          generalize upd (upd (upd H2 p (.tup [.int 0])) p2 (.tup (List.replicate (8 : Int).toNat [.int 0]).flatten)) p3 (.tup [.int e, .ref p2]) = H3 at g3 hz h3 B3 ⊢
          obtain ⟨kb, b1, b2⟩ := B3.bufD
          have hbl := bu_len hbas hn0.2 b2
          refine ⟨_, rfl, _, _, _, _, _, rfl, B3.ins, T.k_Blocks, T.na_Blocks_buffers, rfl, _, rfl, A.bu, _, rfl, DPut.k (k := Sum.inl b) b1 (lt_sl (by omega)), ?_⟩
          obtain ⟨g4, B4⟩ := B3.setBu (b2.put (b := b) (x := (e, zer)) (v := .ref p3) ⟨.ref p2, ⟨p3, rfl, h3⟩, hz⟩)
          refine ⟨(by decide : 2 ≤ sizeLine), fun t5 ht5 => ?_⟩
          exact q _ _ (After.of (g1.lift.trans ((g2.mono mut_ke).trans (g3.lift.trans ((g4.mono mut_bu).trans (Go.new ht5))))) (B4.go (Go.new ht5)) (I.fill gd0 hk0 hGK))
    · rw [decide_eq_false hk4]
      exact ⟨rfl, _, rfl, fun p H' _ g => q _ _ (After.same B I g)⟩
end

end SH

set_option Elab.async false
set_option linter.all false
set_option maxRecDepth 100000
set_option maxHeartbeats 4000000
namespace SH
open PySem PySem.Spec PyProof.Rows L2
theorem qlt {q : List Op} {o : Op} (h : (q ++ [o]).length ≤ 64) : q.length < 64 := by
  rw [List.length_append] at h
  simp at h
  omega
theorem ints_dp {K : PySem.W.Frag} {H : Hp} : ∀ w : List Int, DpAll K H (w.map V.int) (w.map PyData.int)
  | [] => .nil
  | a :: r => .cons (.int a) (ints_dp r)
theorem wd_dp {K : PySem.W.Frag} {H : Hp} {v : V} {w : Wd} (h : WdV K H v w) : Dp K H v (.tuple (w.map PyData.int)) := by
  obtain ⟨a, rfl, ha⟩ := h
  exact .tup ha (ints_dp w)
theorem wd_sh {w : Wd} (h : w.length = 8) : SeqAt.shaped (.tuple (w.map PyData.int)) = true := by
  obtain ⟨x0, x1, x2, x3, x4, x5, x6, x7, rfl⟩ := len8 h
  rfl
theorem wd_eq : ∀ (w u : List Int), PyData.eqvAll (w.map PyData.int) (u.map PyData.int) = decide (w = u)
  | [], [] => rfl
  | [], _ :: _ => rfl
  | _ :: _, [] => rfl
  | a :: r, b :: t => by
    show ((a == b) && PyData.eqvAll (r.map PyData.int) (t.map PyData.int)) = _
    rw [wd_eq r t]
    exact Bool.eq_iff_iff.mpr (by simp)
/-- the answer to a request for a buffer's words -/
def WoR (K : PySem.W.Frag) (H : Hp) (v : V) (s : St) (e b : Int) : Prop := (∃ w u, s.buf b = some (e, w) ∧ TupIs K H v [.str "ok", u] ∧ WdV K H u w) ∨ TupIs K H v [.str "no", .str "buffer"]
def sp_Blocks_fetch (K : PySem.W.Frag) : Sp := fun vs H Q _ => vs.length = 3 ∧ ∃ A n s L M C e b, vs = [.ref A.bl, .int e, .int b] ∧ BlkAt K A H n s ∧ InvB n gdF s L M C ∧ Env e ∧ ∀ v H', After K A n H H' → Q v H'
section
variable {P : Program} {w : World} {K : PySem.W.Frag} {mg : Str → Option Value} {base : Heap}
theorem ok_Blocks_fetch (T : Txt w K mg) (c_no : C8.Cal P w K mg base 1 "no" (sp_no K) []) (c_Blocks_is_fresh : C8.Met P w K mg base 1 (He.ga K "Blocks") "is_fresh" (sp_Blocks_is_fresh K) []) (c_Blocks_memory_forest : C8.Met P w K mg base 5 (He.ga K "Blocks") "memory_forest" (sp_Blocks_memory_forest K) []) (c_Disk_add : C8.Met P w K mg base 2 (He.ga K "Disk") "add" (sp_Disk_add K) []) (c_Disk_queue : C8.Met P w K mg base 1 (He.ga K "Disk") "queue" (sp_Disk_queue K) []) (c_Disk_waits : C8.Met P w K mg base 1 (He.ga K "Disk") "waits" (sp_Disk_waits K) []) : C8.Met P w K mg base 6 (He.ga K "Blocks") "_fetch" (sp_Blocks_fetch K) [] := by
  refine met_go T.f_Blocks_fetch T.k_Blocks T.me_Blocks_fetch sc_Blocks_fetch (fun _ _ _ _ _ _ us hl => match us, hl with | [_, _, _], _ => rfl) (fun _ _ _ _ h => h.1) fun cdv A outer s H vs Q E hr h => ?_
  have hu := hu_of hr
  refine ⟨_, (pss_cons (ps_if (pt_cmp (pc_dnotin hu (pv 2) (C8.pe_mt c_Blocks_memory_forest hr (by decide) (pv 0) (pa_cons (pv 1) pa_nil)))) (pss_one (ps_ret (C8.pe_c c_no hr (by decide) (by rfl) (pa_cons pe_str pa_nil)))) pss_nil)
    (pss_cons (ps_if (pt_cmp (pc_din hu (pv 2) (pe_fldK K rfl (pv 0) rfl))) (pss_one (ps_ret (pe_tup (pa_cons pe_str (pa_cons pe_str pa_nil))))) pss_nil)
    (pss_cons (ps_if (pt_not (pt_val (C8.pe_mt c_Blocks_is_fresh hr (by decide) (pv 0) (pa_cons (pv 2) pa_nil)))) (pss_one (ps_ret (C8.pe_c c_no hr (by decide) (by rfl) (pa_cons pe_str pa_nil)))) pss_nil)
    (pss_cons (ps_for PassesOwn.never rfl (pi_list (C8.pe_mt0 c_Disk_queue hr (by decide) (pe_fldK K rfl (pv 0) rfl))) (pg_name (i := 3) sc_Blocks_fetch.nd rfl (by first | exact Or.inl rfl | exact Or.inr rfl)) (pss_one (ps_if (PW.pt (pw_and (pt_cmpR op_eq (pe_ix (show IxR _ (rIxT K) from ix_tup) (pv 3) pe_int (fun _ _ => rfl)) (pv 2) (nomark _)) (pw_and1 (pt_cmpR op_eq (pe_ix (show IxR _ (rIxT K) from ix_tup) (pv 3) pe_int (fun _ _ => rfl)) pe_str (nomark _))))) (pss_one (ps_ret (C8.pe_c c_no hr (by decide) (by rfl) (pa_cons pe_str pa_nil)))) pss_nil)))
    (pss_cons (ps_if (pt_not (pt_val (C8.pe_mt c_Disk_waits hr (by decide) (pe_fldK K rfl (pv 0) rfl) (pa_cons (pv 2) pa_nil)))) (pss_one (ps_expr (C8.pe_mt c_Disk_add hr (by decide) (pe_fldK K rfl (pv 0) rfl) (pa_cons (pe_tup (pa_cons pe_str (pa_cons (pv 2) (pa_cons (pv 1) pa_nil)))) pa_nil)))) pss_nil)
    (pss_one (ps_ret (pe_tup (pa_cons pe_str (pa_cons pe_str pa_nil)))))))))), ?_⟩
  obtain ⟨_, A, n, s, L, M, C, e, b, rfl, B, I, he, q⟩ := h
  have hn0 := B.disk.n0
  have hbas := I.bas
  refine ⟨_, rfl, _, rfl, A.bl, _, _, rfl, B.ins, rfl, _, rfl, rfl, A, n, s, e, rfl, B, hbas, he, fun v H1 g1 hf => ?_⟩
  obtain ⟨p, kvs, rfl, hp0, hp1, hm1, hr1⟩ := hf.is (I.mf e he)
  have B1 := B.go g1
  refine ⟨p, _, rfl, DGet.k (k := Sum.inl b) hp1, _, rfl, ?_⟩
  rw [hm1.isSome]
  cases hMb : M e b with
  | none => exact ⟨rfl, _, rfl, fun p H' _ g => q _ _ (After.same B I (g1.trans g))⟩
  | some x =>
    obtain ⟨kb, k1, k2⟩ := B1.bufD
    refine ⟨_, rfl, _, rfl, _, _, _, _, _, rfl, B1.ins, T.k_Blocks, T.na_Blocks_buffers, rfl, A.bu, _, rfl, DGet.k (k := Sum.inl b) k1, _, rfl, ?_⟩
    rw [k2.isSome]
    cases hbb : s.buf b with
    | some y => exact ⟨(by decide : 2 ≤ sizeLine), fun t ht => q _ _ (After.same B I (g1.trans (Go.new ht)))⟩
    | none =>
      refine ⟨_, rfl, A.bl, _, _, rfl, B1.ins, rfl, _, rfl, rfl, A, n, s, b, rfl, B1, _, rfl, ?_⟩
      cases hfr : s.fresh b with
      | false => exact ⟨rfl, _, rfl, fun p H' _ g => q _ _ (After.same B I (g1.trans g))⟩
      | true =>
        refine ⟨_, rfl, _, _, _, _, _, rfl, B1.ins, T.k_Blocks, T.na_Blocks_disk, rfl, A.dk, _, _, rfl, B1.disk.ins, rfl, rfl, A.dk, A.dxd, A.he, A.wa, n, s.held, s.queue, rfl, B1.disk, fun pq ws H2 g2 hpq0 hpq hws => ⟨pq, rfl, ⟨_, .inl (.inl hpq)⟩, ?_⟩⟩
        refine for_it wk_list (fun i σ H' => H' = H2 ∧ ∃ x3, σ = [some (.ref A.bl), some (.int e), some (.int b), x3]) ⟨rfl, _, rfl⟩ (fun i σ H' _ p => by rw [p.1]; exact .inl (.inl hpq)) ?_ ?_
        · rintro i x σ H0 H' hi ⟨e0, x3, rfl⟩ ⟨rfl, hx⟩
          subst e0
          obtain ⟨o, ho, hov⟩ := paired_at hws hx
          have go : ∀ y3 : Option V, H' = H' ∧ ∃ x3, [some (V.ref A.bl), some (V.int e), some (V.int b), y3] = [some (.ref A.bl), some (.int e), some (.int b), x3] := fun y3 => ⟨rfl, _, rfl⟩
          cases o with
          | rd b' f =>
            obtain ⟨a, rfl, ha⟩ := hov
            refine ⟨_, rfl, a, _, 1, _, rfl, rfl, ha, rfl, _, rfl, rfl, _, rfl, ?_⟩
            rw [dec_int]
            by_cases hbb' : b' = b
            · rw [hbb', beq_self_eq_true]
              exact ⟨_, rfl, a, _, 0, _, rfl, rfl, ha, rfl, rfl, false, rfl, go _⟩
            · rw [beq_eq_false_iff_ne.mpr hbb']
              exact go _
          | wr b' w f =>
            obtain ⟨u, ⟨a, rfl, ha⟩, hu⟩ := hov
            refine ⟨_, rfl, a, _, 1, _, rfl, rfl, ha, rfl, _, rfl, rfl, _, rfl, ?_⟩
            rw [dec_int]
            by_cases hbb' : b' = b
            · rw [hbb', beq_self_eq_true]
              exact ⟨_, rfl, a, _, 0, _, rfl, rfl, ha, rfl, rfl, true, rfl, rfl, _, rfl, fun p H' _ g => q _ _ (After.same B I (g1.trans (g2.trans g)))⟩
            · rw [beq_eq_false_iff_ne.mpr hbb']
              exact go _
        · rintro σ H' ⟨rfl, x3, rfl⟩
          have B2 := B1.go g2
          refine ⟨_, rfl, _, _, _, _, _, rfl, B2.ins, T.k_Blocks, T.na_Blocks_disk, rfl, A.dk, _, _, rfl, B2.disk.ins, rfl, _, rfl, rfl, A.dk, A.dxd, A.he, A.wa, n, s.held, s.queue, b, rfl, B2.disk, fun H3 g3 => ⟨_, rfl, ?_⟩⟩
          have B3 := B2.go g3
          have g123 := g1.trans (g2.trans g3)
          by_cases hw : ∃ op ∈ s.queue, op.blk = b
          · rw [decide_eq_true hw]
            exact ⟨(by decide : 2 ≤ sizeLine), fun t ht => q _ _ (After.same B I (g123.trans (Go.new ht)))⟩
          · rw [decide_eq_false hw]
            have hq : ∀ op ∈ s.queue, op.blk ≠ b := fun op h1 h2 => hw ⟨op, h1, h2⟩
            have I4 := I.fetch he (by omega) hMb hfr hq
            have hql := qlen I4.bas hn0.2
            refine ⟨_, rfl, _, _, _, _, _, rfl, B3.ins, T.k_Blocks, T.na_Blocks_disk, rfl, A.dk, _, _, rfl, B3.disk.ins, rfl, _, rfl, _, rfl, (by decide : 3 ≤ sizeLine), fun t ht => ?_⟩
            have g4 : Go [] H3 (upd H3 t (.tup [.str "read", .int b, .int e])) := Go.new ht
            have B4 := B3.go g4
            refine ⟨rfl, A.dk, A.dxd, A.he, A.wa, n, s.held, s.queue, .ref t, Op.rd b e, rfl, B4.disk, ⟨t, rfl, .inl (.inl upd_same)⟩, hq, qlt hql, fun H5 g5 D5 => ?_⟩
            have B5 := B4.newDisk (g5.mono (by simp)) D5
            refine ⟨(by decide : 2 ≤ sizeLine), fun t5 ht5 => ?_⟩
            exact q _ _ (After.of (g123.lift.trans (g4.lift.trans ((g5.mono mut_wa).trans (Go.new ht5)))) (B5.go (Go.new ht5)) I4)
end
def sp_Blocks_flush (K : PySem.W.Frag) : Sp := fun vs H Q _ => vs.length = 4 ∧ ∃ A n s L M C e b u w, vs = [.ref A.bl, .int e, .int b, u] ∧ BlkAt K A H n s ∧ InvB n gdF s L M C ∧ Env e ∧ s.buf b = some (e, w) ∧ WdV K H u w ∧ ∀ v H', After K A n H H' → Q v H'
section
variable {P : Program} {w : World} {K : PySem.W.Frag} {mg : Str → Option Value} {base : Heap}
theorem ok_Blocks_flush (T : Txt w K mg) (c_no : C8.Cal P w K mg base 1 "no" (sp_no K) []) (c_Blocks_may_link : C8.Met P w K mg base 8 (He.ga K "Blocks") "_may_link" (sp_Blocks_may_link K) []) (c_Blocks_coming : C8.Met P w K mg base 6 (He.ga K "Blocks") "coming" (sp_Blocks_coming K) []) (c_Blocks_forest_with : C8.Met P w K mg base 5 (He.ga K "Blocks") "forest_with" (sp_Blocks_forest_with K) []) (c_Blocks_lasting_forest : C8.Met P w K mg base 5 (He.ga K "Blocks") "lasting_forest" (sp_Blocks_lasting_forest K) []) (c_Disk_add : C8.Met P w K mg base 2 (He.ga K "Disk") "add" (sp_Disk_add K) []) (c_Disk_queue : C8.Met P w K mg base 1 (He.ga K "Disk") "queue" (sp_Disk_queue K) []) (c_Disk_waits : C8.Met P w K mg base 1 (He.ga K "Disk") "waits" (sp_Disk_waits K) []) : C8.Met P w K mg base 9 (He.ga K "Blocks") "_flush" (sp_Blocks_flush K) [] := by
  refine met_go T.f_Blocks_flush T.k_Blocks T.me_Blocks_flush sc_Blocks_flush (fun _ _ _ _ _ _ us hl => match us, hl with | [_, _, _, _], _ => rfl) (fun _ _ _ _ h => h.1) fun cdv A outer s H vs Q E hr h => ?_
  have hu := hu_of hr
  have hu65 := hu65_of hr
  refine ⟨_, (pss_cons (ps_setLc (i := 4) (own := [("operation", 7)]) rfl sc_Blocks_flush.nd rfl rfl (sw_true rfl rfl rfl (by decide +kernel)) (pi_list (C8.pe_mt0 c_Disk_queue hr (by decide) (pe_fldK K rfl (pv 0) rfl))) (blkOk_by (own := [("operation", 7)]) (N := n_Blocks_flush) (sc := defScope s_Blocks_flush) (by decide +kernel)) (fun _ _ _ _ _ => (pg_name (i := 7) sc_Blocks_flush.nd rfl (by first | exact Or.inl rfl | exact Or.inr rfl))) (fun _ _ _ _ _ => pts_one (pt_cmpR op_eq (pe_ix (show IxR _ (rIxT K) from ix_tup) (pv 7) (pe_un un_neg pe_int) (fun _ _ => rfl)) (pv 1) (nomark _))) (fun _ _ _ _ _ => (pv 7)))
    (pss_cons (ps_if (PW.pt (pw_or (pt_val (C8.pe_mt c_Disk_waits hr (by decide) (pe_fldK K rfl (pv 0) rfl) (pa_cons (pv 2) pa_nil))) (pw_or1 (pt_cmpR (op_neFor hu65) (C8.pe_mt c_Blocks_coming hr (by decide) (pv 0) (pa_cons (pv 1) pa_nil)) pe_dnewK (nomark _))))) (pss_one (ps_ret (C8.pe_c c_no hr (by decide) (by rfl) (pa_cons pe_str pa_nil)))) pss_nil)
    (pss_cons (ps_set (i := 5) sc_Blocks_flush.nd rfl (by first | exact Or.inl rfl | exact Or.inr rfl) (C8.pe_mt c_Blocks_lasting_forest hr (by decide) (pv 0) (pa_cons (pv 1) pa_nil)))
    (pss_cons (ps_set (i := 6) sc_Blocks_flush.nd rfl (by first | exact Or.inl rfl | exact Or.inr rfl) (pv 5))
    (pss_cons (ps_if (pt_cmp (pc_din hu (pv 2) (pv 5))) (pss_one (ps_set (i := 6) sc_Blocks_flush.nd rfl (by first | exact Or.inl rfl | exact Or.inr rfl) (C8.pe_mt c_Blocks_forest_with hr (by decide) (pv 0) (pa_cons (pv 1) (pa_cons (pv 2) (pa_cons (pv 3) pa_nil)))))) pss_nil)
    (pss_cons (ps_if (pt_cmpR (op_neFor hu65) (pv 6) (pv 5) (nomark _)) (pss_cons (ps_if (pt_cmpR op_gt (pe_callB (show CallR _ _ (rLen K) from call_len) (by rfl) T.b_len PySem.boot_len (pa_cons (pv 4) pa_nil)) pe_int (nomark _)) (pss_one (ps_ret (C8.pe_c c_no hr (by decide) (by rfl) (pa_cons pe_str pa_nil)))) pss_nil)
    (pss_one (ps_if (PW.pt (pw_or (pt_cmpR op_isN (pv 6) pe_non (nomark _)) (pw_or1 (pt_not (pt_val (C8.pe_mt c_Blocks_may_link hr (by decide) (pv 0) (pa_cons (pv 1) (pa_cons (pv 6) pa_nil)))))))) (pss_one (ps_ret (C8.pe_c c_no hr (by decide) (by rfl) (pa_cons pe_str pa_nil)))) pss_nil))) pss_nil)
    (pss_cons (ps_expr (C8.pe_mt c_Disk_add hr (by decide) (pe_fldK K rfl (pv 0) rfl) (pa_cons (pe_tup (pa_cons pe_str (pa_cons (pv 2) (pa_cons (pv 3) (pa_cons (pv 1) pa_nil))))) pa_nil)))
    (pss_one (ps_ret (pe_tup (pa_cons pe_str (pa_cons pe_non pa_nil)))))))))))), ?_⟩
  obtain ⟨_, A, n, s, L, M, C, e, b, u, w, rfl, B, I, he, hb, hu, q⟩ := h
  have hn0 := B.disk.n0
  have hbas := I.bas
  have hbr := hbas.buf b e w hb
  refine ⟨_, rfl, _, _, _, _, _, rfl, B.ins, T.k_Blocks, T.na_Blocks_disk, rfl, A.dk, _, _, rfl, B.disk.ins, rfl, rfl, A.dk, A.dxd, A.he, A.wa, n, s.held, s.queue, rfl, B.disk, fun pq ws H1 g1 hpq0 hpq hws => ⟨pq, rfl, ⟨_, .inl (.inl hpq)⟩, ?_⟩⟩
  have hwl := hws.length
  have hql := qlen hbas hn0.2
  have B1 := B.go g1
  refine lc_go (Z := []) (fun i acc _ => acc.length = 0 → ∀ o ∈ s.queue.take i, o.env ≠ e) wk_list (le_sl (by omega)) no_z (fun H' g => .inl (.inl (g.at hpq))) (fun _ _ _ o h => by cases h) (fun _ _ _ _ _ _ h _ => h) ?_ ?_
  · intro i x acc H' hi hx hl g hR K1 K2 kk1 kk2
    obtain ⟨o, ho, hov⟩ := paired_at hws hx
    obtain ⟨a, rfl, l, hal, hl1, hlm⟩ := opv_env (hov.go g)
    have e1 : s.queue.take (i + 1) = s.queue.take i ++ [o] := by rw [List.take_add_one, ho] <;> rfl
    refine ⟨rfl, _, rfl, 1, rfl, a, l, -1, _, rfl, rfl, hal, hlm, _, rfl, rfl, _, rfl, ?_⟩
    rw [dec_int]
    by_cases hoe : o.env = e
    · rw [hoe, beq_self_eq_true]
      exact ⟨_, rfl, kk1 _ _ Go.refl fun h => by simp at h⟩
    · rw [beq_eq_false_iff_ne.mpr hoe]
      refine kk2 _ Go.refl fun h o' ho' => ?_
      rw [e1] at ho'
      rcases List.mem_append.mp ho' with z | z
      · exact hR h o' z
      · rw [List.mem_singleton.mp z]
        exact hoe
  intro pm acc H2 hpm g2 hacc hl2 hno
  rw [hwl, List.take_length] at hno
  have B2 := B1.go g2
  have g12 := g1.trans g2
  have busy : ∀ (z : Str) (H3 : Hp), Go [] H H3 → sp_no K [.str z] H3 Q C8.E0 := fun z H3 g3 => ⟨rfl, z, rfl, fun p H' _ g => q _ _ (After.same B I (g3.trans g))⟩
  refine ⟨_, rfl, _, _, _, _, _, rfl, B2.ins, T.k_Blocks, T.na_Blocks_disk, rfl, A.dk, _, _, rfl, B2.disk.ins, rfl, _, rfl, rfl, A.dk, A.dxd, A.he, A.wa, n, s.held, s.queue, b, rfl, B2.disk, fun H3 g3 => ⟨_, rfl, ?_⟩⟩
  have B3 := B2.go g3
  have g13 := g12.trans g3
  by_cases hw : ∃ op ∈ s.queue, op.blk = b
  · rw [decide_eq_true hw]
    exact busy _ _ g13
  rw [decide_eq_false hw]
  have hq : ∀ op ∈ s.queue, op.blk ≠ b := fun op h1 h2 => hw ⟨op, h1, h2⟩
  refine ⟨_, rfl, A.bl, _, _, rfl, B3.ins, rfl, _, rfl, rfl, A, n, s, e, L, M, C, rfl, B3, I, he, fun pc kvc H4 g4 hpc0 hpc hmc => ?_⟩
  refine fun pe hpe => ?_
  have g5 : Go [] H4 (upd H4 pe (.dK [])) := Go.new hpe
  have h5e : upd H4 pe (.dK []) pe = some (.dK []) := upd_same
  have h5c := g5.at hpc
  have m5c := hmc.mono (R' := FoV K (upd H4 pe (.dK []))) fun _ _ _ _ z => z.go g5
  generalize upd H4 pe (.dK []) = H5 at g5 h5e h5c m5c ⊢
  have g15 := g13.trans (g4.trans g5)
  have B5 := B.go g15
  have hm5 : H5 pm = some (.lst acc) := (g3.trans (g4.trans g5)).at hacc
  refine ne_maps h5c h5e m5c (G2 := e0) MapR.nil (fun _ => ⟨_, rfl, busy _ _ g15⟩) fun hC => ⟨_, rfl, ?_⟩
  have hquiet : ∀ x w, Op.wr x w e ∈ s.queue → Qt n gdF s L x w e := fun x w h => by
    rcases (I.qw x w e h).2 with z | ⟨_, z, _⟩
    · exact z
    · have h2 := z.root e (some 1) (if_pos rfl)
      rw [hC] at h2
      cases h2
  refine ⟨_, rfl, A.bl, _, _, rfl, B5.ins, rfl, _, rfl, rfl, A, n, s, e, rfl, B5, hbas, he, fun v H6 g6 hf => ?_⟩
  obtain ⟨p, kvs, rfl, hp0, hp1, hm1, hr1⟩ := hf.is (I.lf e he)
  have g16 := g15.trans g6
  have B6 := B.go g16
  have hm6 := g6.at hm5
  have fin : ∀ (x4 x5 x6 x7 : Option V) (H7 : Hp) (L' M' C' : Int → Mp), Go [] H6 H7 ∨ Go A.mut H H7 ∧ BlkAt K A H7 n s ∧ WdV K H7 u w → InvB n gdF { s with queue := s.queue ++ [Op.wr b w e] } L' M' C' →
      tSeq (tDrop (tMeth (He.ga K "Disk") "add" (sp_Disk_add K) [] C8.E0 (tFld K (tVar 0) "disk") (tCons (tTup (tCons (tC (.str "write")) (tCons (tVar 2) (tCons (tVar 3) (tCons (tVar 1) tNil))))) tNil)))
        (tRet (tTup (tCons (tC (.str "ok")) (tCons (tC V.non) tNil)))) { nx := fun _ H' => Q .non H', rt := Q } [some (.ref A.bl), some (.int e), some (.int b), some u, x4, x5, x6, x7] H7 := by
    intro x4 x5 x6 x7 H7 L' M' C' h7 I7
    obtain ⟨g7, B7, hu7⟩ : Go A.mut H H7 ∧ BlkAt K A H7 n s ∧ WdV K H7 u w := by
      rcases h7 with g | h
      · exact ⟨(g16.trans g).lift, B6.go g, (hu.go g16).go g⟩
      · exact h
    have hql7 : (s.queue ++ [Op.wr b w e]).length ≤ 64 := qlen I7.bas hn0.2
    refine ⟨_, rfl, _, _, _, _, _, rfl, B7.ins, T.k_Blocks, T.na_Blocks_disk, rfl, A.dk, _, _, rfl, B7.disk.ins, rfl, _, rfl, _, rfl, _, rfl, (by decide : 4 ≤ sizeLine), fun t ht => ?_⟩
    have g8 : Go [] H7 (upd H7 t (.tup [.str "write", .int b, u, .int e])) := Go.new ht
    have B8 := B7.go g8
    refine ⟨rfl, A.dk, A.dxd, A.he, A.wa, n, s.held, s.queue, .ref t, Op.wr b w e, rfl, B8.disk, ⟨u, ⟨t, rfl, .inl (.inl upd_same)⟩, hu7.go g8⟩, hq, qlt hql7, fun H9 g9 D9 => ?_⟩
    have B9 := B8.newDisk (g9.mono (by simp)) D9
    refine ⟨(by decide : 2 ≤ sizeLine), fun t5 ht5 => ?_⟩
    exact q _ _ (After.of (g7.trans (g8.lift.trans ((g9.mono mut_wa).trans (Go.new ht5)))) (B9.go (Go.new ht5)) I7)
  refine ⟨_, rfl, ?_⟩
  refine ⟨_, rfl, _, rfl, p, _, rfl, DGet.k (k := Sum.inl b) hp1, _, rfl, ?_⟩
  rw [hm1.isSome]
  cases hLb : L e b with
  | none =>
    refine ⟨_, rfl, _, rfl, ne_maps hp1 hp1 hm1 hm1 (fun z => absurd rfl z) fun _ => ⟨_, rfl, ?_⟩⟩
    exact fin _ _ _ _ _ _ _ _ (.inl Go.refl) (I.flushQ hb hq hquiet (qt_out I he hLb))
  | some xL =>
    refine ⟨_, rfl, A.bl, _, _, rfl, B6.ins, rfl, _, rfl, _, rfl, _, rfl, rfl, A, n, s, e, b, u, w, rfl, B6, hbas, he, hu.go g16, hbr.2.2.2.1, fun v H7 g7 hf7 => ?_⟩
    have B7 := B6.go g7
    have g17 := g16.trans g7
    have hm7 := g7.at hm6
    have hp7 := g7.at hp1
    rcases hf7 with ⟨p7, kv7, F, rfl, hp70, hp71, hm71, hF, hFr⟩ | ⟨rfl, hnF⟩
    · refine ⟨_, rfl, _, rfl, ne_maps hp71 hp7 hm71 (hm1.mono fun _ _ _ _ z => z.go g7) (fun hne => ⟨_, rfl, ?_⟩) fun heq => ⟨_, rfl, ?_⟩⟩
      · refine ⟨_, rfl, _, acc.length, rfl, .inl ⟨_, .inl (.inl hm7), rfl⟩, _, 0, rfl, rfl, _, rfl, ?_⟩
        by_cases hz : (0 : Int) < (acc.length : Int)
        · rw [decide_eq_true hz]
          exact busy _ _ g17
        · rw [decide_eq_false hz]
          have hno' := hno (by omega)
          refine ⟨_, rfl, rfl, false, congrArg V.bl (decide_eq_false (by simp)), ?_⟩
          refine ⟨_, rfl, A.bl, _, _, rfl, B7.ins, rfl, _, rfl, _, rfl, rfl, A, n, s, e, L, M, C, p7, kv7, F, rfl, B7, I, he, hp71, hm71, B6.newA hp70, fun r H8 g8 hr => ⟨_, rfl, ?_⟩⟩
          have hp7H : H p7 = none := g16.free hp70
          have g18 : Go [] H H8 := g17.drop1 g8 hp7H
          cases r with
          | false => exact busy _ _ g18
          | true =>
            have hr' := hr rfl
            have I8 := I.flushL hb hq hno' hF hne fun x v hx => by
              refine ⟨(hr' x v hx).1, ?_⟩
              by_cases h4 : 4 ≤ x
              · exact (hr' x v hx).2 h4
              · obtain ⟨o, k⟩ := v
                rcases hF.rng hx with ⟨z, _⟩ | ⟨z, _⟩
                · have ex := (R1_iff.mp z).1
                  rw [ex]
                  exact I.chL (I.roots he).1
                · exact absurd z h4
            exact fin _ _ _ _ _ _ _ _ (.inr ⟨g18.lift, B.go g18, hu.go g18⟩) I8
      · refine fin _ _ _ _ _ _ _ _ (.inl g7) (I.flushQ hb hq hquiet ?_)
        unfold Qt
        rw [← heq]
        exact hF
    · refine ⟨_, rfl, _, rfl, .inl ⟨rfl, p, kvs, rfl, hp7, _, rfl, ?_⟩⟩
      refine ⟨_, rfl, _, acc.length, rfl, .inl ⟨_, .inl (.inl hm7), rfl⟩, _, 0, rfl, rfl, _, rfl, ?_⟩
      by_cases hz : (0 : Int) < (acc.length : Int)
      · rw [decide_eq_true hz]
        exact busy _ _ g17
      · rw [decide_eq_false hz]
        exact ⟨_, rfl, rfl, true, rfl, busy _ _ g17⟩
end
def sp_Blocks_buffered (K : PySem.W.Frag) : Sp := fun vs H Q _ => vs.length = 4 ∧ ∃ A n s L M C e b z, vs = [.ref A.bl, .int e, .str z, .int b] ∧ BlkAt K A H n s ∧ InvB n gdF s L M C ∧ Env e ∧
  ((z = "words" ∧ ∀ v H', Go [] H H' → WoR K H' v s e b → Q v H') ∨ ((z = "flush" ∨ z = "forget") ∧ ∀ v H', After K A n H H' → Q v H'))
section
variable {P : Program} {w : World} {K : PySem.W.Frag} {mg : Str → Option Value} {base : Heap}
theorem ok_Blocks_buffered (T : Txt w K mg) (c_no : C8.Cal P w K mg base 1 "no" (sp_no K) []) (c_Blocks_flush : C8.Met P w K mg base 9 (He.ga K "Blocks") "_flush" (sp_Blocks_flush K) []) (c_Blocks_has_buffer : C8.Met P w K mg base 1 (He.ga K "Blocks") "_has_buffer" (sp_Blocks_has_buffer K) []) (c_Blocks_is_fresh : C8.Met P w K mg base 1 (He.ga K "Blocks") "is_fresh" (sp_Blocks_is_fresh K) []) (c_Disk_waits : C8.Met P w K mg base 1 (He.ga K "Disk") "waits" (sp_Disk_waits K) []) (c_Disk_words : C8.Met P w K mg base 1 (He.ga K "Disk") "words" (sp_Disk_words K) []) : C8.Met P w K mg base 10 (He.ga K "Blocks") "_buffered" (sp_Blocks_buffered K) [] := by
  refine met_go T.f_Blocks_buffered T.k_Blocks T.me_Blocks_buffered sc_Blocks_buffered (fun _ _ _ _ _ _ us hl => match us, hl with | [_, _, _, _], _ => rfl) (fun _ _ _ _ h => h.1) fun cdv A outer s H vs Q E hr h => ?_
  have hu := hu_of hr
  refine ⟨_, (pss_cons (ps_if (pt_not (pt_val (C8.pe_mt c_Blocks_has_buffer hr (by decide) (pv 0) (pa_cons (pv 1) (pa_cons (pv 3) pa_nil))))) (pss_one (ps_ret (C8.pe_c c_no hr (by decide) (by rfl) (pa_cons pe_str pa_nil)))) pss_nil)
    (pss_cons (ps_set (i := 4) sc_Blocks_buffered.nd rfl (by first | exact Or.inl rfl | exact Or.inr rfl) (pe_ix (show IxR _ (rIxT K) from ix_tup) (pe_dget hu (pe_fldK K rfl (pv 0) rfl) (pv 3) (fun _ _ => rfl)) pe_int (fun _ _ => rfl)))
    (pss_cons (ps_set (i := 5) sc_Blocks_buffered.nd rfl (by first | exact Or.inl rfl | exact Or.inr rfl) (pe_cmpR (show OpR _ _ (rEqD K) from op_eqD hr.units) (pv 4) (C8.pe_mt c_Disk_words hr (by decide) (pe_fldK K rfl (pv 0) rfl) (pa_cons (pv 3) pa_nil)) (nomark _)))
    (pss_cons (ps_if (pt_cmpR op_eq (pv 2) pe_str (nomark _)) (pss_one (ps_ret (pe_tup (pa_cons pe_str (pa_cons (pv 4) pa_nil))))) pss_nil)
    (pss_cons (ps_if (pt_cmpR op_eq (pv 2) pe_str (nomark _)) (pss_one (ps_ret (pe_tup (pa_cons pe_str (pa_cons (pe_and (pv 5) (pe_one (pe_not (C8.pe_mt c_Disk_waits hr (by decide) (pe_fldK K rfl (pv 0) rfl) (pa_cons (pv 3) pa_nil))))) pa_nil))))) pss_nil)
    (pss_cons (ps_if (pt_cmpR op_eq (pv 2) pe_str (nomark _)) (pss_one (ps_ret (C8.pe_mt c_Blocks_flush hr (by decide) (pv 0) (pa_cons (pv 1) (pa_cons (pv 3) (pa_cons (pv 4) pa_nil)))))) pss_nil)
    (pss_cons (ps_if (pt_val (C8.pe_mt c_Disk_waits hr (by decide) (pe_fldK K rfl (pv 0) rfl) (pa_cons (pv 3) pa_nil))) (pss_one (ps_ret (C8.pe_c c_no hr (by decide) (by rfl) (pa_cons pe_str pa_nil)))) pss_nil)
    (pss_cons (ps_if (pt_not (pt_val (C8.pe_mt c_Blocks_is_fresh hr (by decide) (pv 0) (pa_cons (pv 3) pa_nil)))) (pss_one (ps_ret (C8.pe_c c_no hr (by decide) (by rfl) (pa_cons pe_str pa_nil)))) pss_nil)
    (pss_cons (ps_if (pt_not (pt_truth (pv 5) (by intro _; rfl))) (pss_one (ps_ret (C8.pe_c c_no hr (by decide) (by rfl) (pa_cons pe_str pa_nil)))) pss_nil)
    (pss_cons (ps_expr (pe_dpop1 (pe_fldK K rfl (pv 0) rfl) (pv 3) ⟨rfl, rfl, rfl, rfl⟩))
    (pss_one (ps_ret (pe_tup (pa_cons pe_str (pa_cons pe_non pa_nil))))))))))))))), ?_⟩
  obtain ⟨_, A, n, s, L, M, C, e, b, z, rfl, B, I, he, hz⟩ := h
  have hn0 := B.disk.n0
  have hbas := I.bas
  refine ⟨_, rfl, A.bl, _, _, rfl, B.ins, rfl, _, rfl, _, rfl, rfl, A, n, s, e, b, rfl, B, _, rfl, ?_⟩
  cases hh : hasB s e b with
  | false =>
    refine ⟨rfl, _, rfl, fun p H' ht g => ?_⟩
    rcases hz with ⟨_, q⟩ | ⟨_, q⟩
    · exact q _ _ g (.inr ht)
    · exact q _ _ (After.same B I g)
  | true =>
    obtain ⟨w, hw⟩ : ∃ w, s.buf b = some (e, w) := by
      unfold hasB at hh
      cases hb : s.buf b with
      | none => rw [hb] at hh; cases hh
      | some p =>
        rw [hb] at hh
        obtain ⟨f, w⟩ := p
        have : f = e := of_decide_eq_true hh
        exact ⟨w, by rw [this]⟩
    have hbr := hbas.buf b e w hw
    obtain ⟨kb, k1, k2⟩ := B.bufD
    obtain ⟨v, v1, u, ⟨t, rfl, ht⟩, hu⟩ := k2.gets hw
    have dg := DGet.k (k := Sum.inl b) k1
    rw [v1] at dg
    refine ⟨_, rfl, _, _, _, _, _, rfl, B.ins, T.k_Blocks, T.na_Blocks_buffers, rfl, _, rfl, A.bu, _, rfl, dg, t, _, 1, _, rfl, rfl, ht, rfl, ?_⟩
    refine ⟨_, rfl, _, rfl, _, _, _, _, _, rfl, B.ins, T.k_Blocks, T.na_Blocks_disk, rfl, A.dk, _, _, rfl, B.disk.ins, rfl, _, rfl, rfl, A.dk, A.dxd, A.he, A.wa, n, s.held, s.queue, b, rfl, B.disk, hbr.2.1 |> fun h => ⟨h, hbr.2.2.1⟩, fun v' hv' => ?_⟩
    refine ⟨_, _, wd_dp hu, wd_dp hv', wd_sh hbr.2.2.2.1, wd_sh (hbas.held b hbr.2.1 hbr.2.2.1).1, ?_⟩
    have esame : PyData.eqv (.tuple (w.map PyData.int)) (.tuple ((s.held b).map PyData.int)) = decide (w = s.held b) := wd_eq _ _
    rw [esame]
    rcases hz with ⟨rfl, q⟩ | ⟨hzz, q⟩
    · refine ⟨_, rfl, rfl, true, rfl, _, rfl, (by decide : 2 ≤ sizeLine), fun t5 ht5 => ?_⟩
      exact q _ _ (Go.new ht5) (.inl ⟨w, u, hw, ⟨t5, rfl, .inl (.inl upd_same)⟩, hu.go (Z := []) (Go.new ht5)⟩)
    · rcases hzz with rfl | rfl
      · refine ⟨_, rfl, rfl, false, rfl, _, rfl, rfl, false, rfl, _, rfl, rfl, true, rfl, ?_⟩
        exact ⟨_, rfl, A.bl, _, _, rfl, B.ins, rfl, _, rfl, _, rfl, _, rfl, rfl, A, n, s, L, M, C, e, b, u, w, rfl, B, I, he, hw, hu, q⟩
      · refine ⟨_, rfl, rfl, false, rfl, _, rfl, rfl, false, rfl, _, rfl, rfl, false, rfl, ?_⟩
        refine ⟨_, rfl, _, _, _, _, _, rfl, B.ins, T.k_Blocks, T.na_Blocks_disk, rfl, A.dk, _, _, rfl, B.disk.ins, rfl, _, rfl, rfl, A.dk, A.dxd, A.he, A.wa, n, s.held, s.queue, b, rfl, B.disk, fun H1 g1 => ⟨_, rfl, ?_⟩⟩
        have B1 := B.go g1
        by_cases hwt : ∃ op ∈ s.queue, op.blk = b
        · rw [decide_eq_true hwt]
          exact ⟨rfl, _, rfl, fun p H' _ g => q _ _ (After.same B I (g1.trans g))⟩
        rw [decide_eq_false hwt]
        refine ⟨_, rfl, A.bl, _, _, rfl, B1.ins, rfl, _, rfl, rfl, A, n, s, b, rfl, B1, _, rfl, ?_⟩
        cases hfr : s.fresh b with
        | false => exact ⟨rfl, _, rfl, fun p H' _ g => q _ _ (After.same B I (g1.trans g))⟩
        | true =>
          by_cases hs : w = s.held b
          · rw [decide_eq_true hs]
            refine ⟨_, rfl, true, rfl, ?_⟩
            obtain ⟨kb, k1, k2⟩ := B1.bufD
            obtain ⟨v0, hv0, _⟩ := k2.gets hw
            refine ⟨_, rfl, _, _, _, _, _, rfl, B1.ins, T.k_Blocks, T.na_Blocks_buffers, rfl, A.bu, rfl, .inl ⟨_, .inl k1⟩, _, rfl, kb, Sum.inl b, v0, k1, rfl, hv0, ?_⟩
            obtain ⟨g4, B4⟩ := B1.setBu (k2.drop (b := b))
            refine ⟨(by decide : 2 ≤ sizeLine), fun t5 ht5 => ?_⟩
            exact q _ _ (After.of (g1.lift.trans ((g4.mono mut_bu).trans (Go.new ht5))) (B4.go (Go.new ht5)) (I.forget hw hs fun op h1 h2 => hwt ⟨op, h1, h2⟩))
          · rw [decide_eq_false hs]
            exact ⟨_, rfl, false, rfl, rfl, _, rfl, fun p H' _ g => q _ _ (After.same B I (g1.trans g))⟩
end

end SH

set_option Elab.async false
set_option linter.all false
set_option maxRecDepth 100000
set_option maxHeartbeats 4000000
namespace SH
open PySem PySem.Spec PyProof.Rows L2
def IntV (k : Int) (v : V) : Prop := v = .int k
def sp_Blocks_is_rows (K : PySem.W.Frag) : Sp := fun vs H Q _ => vs.length = 2 ∧ ∃ a v rows, vs = [a, v] ∧ RwsV K H v rows ∧ (1 ≤ rows.length ∧ rows.length ≤ 2) ∧ (rows.map Prod.fst).Nodup ∧ (∀ r ∈ rows, Okw r.2) ∧ ∀ H', Go [] H H' → Q (.bl true) H'
section
variable {P : Program} {w : World} {K : PySem.W.Frag} {mg : Str → Option Value} {base : Heap}
theorem ok_Blocks_is_rows (T : Txt w K mg) (c_is_number : C8.Cal P w K mg base 1 "is_number" (sp_is_number K) []) (c_is_words : C8.Cal P w K mg base 3 "is_words" (sp_is_words K) []) : C8.Met P w K mg base 4 (He.ga K "Blocks") "_is_rows" (sp_Blocks_is_rows K) [] := by
  refine met_go T.f_Blocks_is_rows T.k_Blocks T.me_Blocks_is_rows sc_Blocks_is_rows (fun _ _ _ _ _ _ us hl => match us, hl with | [_, _], _ => rfl) (fun _ _ _ _ h => h.1) fun cdv A outer s H vs Q E hr h => ?_
  refine ⟨_, (pss_cons (ps_if (PW.pt (pw_or (pt_not (pt_val (pe_callB (show CallR _ _ (rIsi K) from call_isi) (by rfl) T.b_isinstance (by decide +kernel) (pa_cons (pv 1) (pa_cons (pe_bltn (v := .ty "tuple") (by rfl) T.b_tuple (by decide +kernel) rfl) pa_nil))))) (pw_or1 (pt_not (pt_chain op_le op_le pe_int (pe_callB (show CallR _ _ (rLen K) from call_len) (by rfl) T.b_len PySem.boot_len (pa_cons (pv 1) pa_nil)) pe_int))))) (pss_one (ps_ret pe_bl)) pss_nil)
    (pss_cons (ps_for PassesOwn.never rfl (pi_tup (pv 1)) (pg_name (i := 2) sc_Blocks_is_rows.nd rfl (by first | exact Or.inl rfl | exact Or.inr rfl)) (pss_one (ps_if (PW.pt (pw_or (pt_not (pt_val (pe_callB (show CallR _ _ (rIsi K) from call_isi) (by rfl) T.b_isinstance (by decide +kernel) (pa_cons (pv 2) (pa_cons (pe_bltn (v := .ty "tuple") (by rfl) T.b_tuple (by decide +kernel) rfl) pa_nil))))) (pw_or (pt_cmpR op_ne (pe_callB (show CallR _ _ (rLen K) from call_len) (by rfl) T.b_len PySem.boot_len (pa_cons (pv 2) pa_nil)) pe_int (nomark _)) (pw_or (pt_not (pt_val (C8.pe_c c_is_number hr (by decide) (by rfl) (pa_cons (pe_ix (show IxR _ (rIxT K) from ix_tup) (pv 2) pe_int (fun _ _ => rfl)) pa_nil)))) (pw_or1 (pt_not (pt_val (C8.pe_c c_is_words hr (by decide) (by rfl) (pa_cons (pe_ix (show IxR _ (rIxT K) from ix_tup) (pv 2) pe_int (fun _ _ => rfl)) pa_nil))))))))) (pss_one (ps_ret pe_bl)) pss_nil)))
    (pss_one (ps_ret (pe_or (pe_cmpR op_eq (pe_callB (show CallR _ _ (rLen K) from call_len) (by rfl) T.b_len PySem.boot_len (pa_cons (pv 1) pa_nil)) pe_int (nomark _)) (pe_one (pe_cmpR op_ne (pe_ix (show IxR _ (rIx K) from ix_seq) (pe_ix (show IxR _ (rIxT K) from ix_tup) (pv 1) pe_int (fun _ _ => rfl)) pe_int (fun _ _ => rfl)) (pe_ix (show IxR _ (rIx K) from ix_seq) (pe_ix (show IxR _ (rIxT K) from ix_tup) (pv 1) pe_int (fun _ _ => rfl)) pe_int (fun _ _ => rfl)) (nomark _)))))))), ?_⟩
  obtain ⟨_, a0, v, rows, rfl, ⟨ts, ⟨a, rfl, ha⟩, hts⟩, hl, hnd, hok, q⟩ := h
  have htl := hts.length
  refine ⟨_, rfl, _, _, _, _, true, rfl, .ty _, ty_tup ha, kit_ty (by decide +kernel), true, rfl, ?_⟩
  refine ⟨_, rfl, _, ts.length, rfl, .inr ⟨_, ha, rfl⟩, 1, _, rfl, rfl, true, bT (by omega), _, 2, rfl, rfl, true, bT (by omega), ?_⟩
  refine ⟨_, rfl, a, rfl, ⟨_, ha⟩, ?_⟩
  refine for_it wk_tup (fun i σ H' => Go [] H H' ∧ ∃ x2, σ = [some a0, some (.ref a), x2]) ⟨Go.refl, _, rfl⟩ (fun i σ H' _ p => p.1.tup ha) ?_ ?_
  · rintro i x σ H0 H' hi ⟨g, x2, rfl⟩ ⟨rfl, hx⟩
    obtain ⟨r, hr, u, ⟨t, rfl, ht⟩, hu⟩ := paired_at hts hx
    have ht' := g.tup ht
    refine ⟨_, rfl, _, _, _, _, true, rfl, .ty _, ty_tup ht', kit_ty (by decide +kernel), true, rfl, ?_⟩
    refine ⟨_, rfl, _, 2, rfl, .inr ⟨_, ht', rfl⟩, rfl, false, rfl, ?_⟩
    refine ⟨_, rfl, t, _, 0, _, rfl, rfl, ht', rfl, rfl, r.1, rfl, true, rfl, ?_⟩
    refine ⟨_, rfl, t, _, 1, _, rfl, rfl, ht', rfl, rfl, u, r.2, rfl, hu.go g, hok r (List.mem_of_getElem? hr), fun H2 g2 => ⟨true, rfl, ?_⟩⟩
    exact ⟨g.trans g2, _, rfl⟩
  · rintro σ H' ⟨g, x2, rfl⟩
    have ha' := g.tup ha
    clear ha
    cases hts with
    | nil => simp at hl
    | @cons t1 r1 ts' rows' w1 tl =>
      obtain ⟨u1, ⟨p1, rfl, h1⟩, _⟩ := w1
      cases tl with
      | nil => exact ⟨_, rfl, _, 1, rfl, .inr ⟨_, ha', rfl⟩, rfl, true, rfl, q _ g⟩
      | @cons t2 r2 ts'' rows'' w2 tl2 =>
        obtain ⟨u2, ⟨p2, rfl, h2⟩, _⟩ := w2
        have hz : ts'' = [] := by
          have h3 : rows''.length = 0 := by
            have := hl.2
            simp only [List.length_cons] at this
            omega
          exact List.eq_nil_of_length_eq_zero (by rw [tl2.length]; exact h3)
        subst hz
        have hne : r1.1 ≠ r2.1 := fun z => (List.nodup_cons.mp (show (r1.1 :: r2.1 :: rows''.map Prod.fst).Nodup from hnd)).1 (by rw [z]; exact List.mem_cons_self)
        refine ⟨_, rfl, _, 2, rfl, .inr ⟨_, ha', rfl⟩, rfl, false, rfl, ?_⟩
        refine ⟨_, rfl, a, _, 0, _, rfl, rfl, ha', rfl, .inr (.inl ⟨p1, _, 0, _, rfl, rfl, g.tup h1, rfl, ?_⟩)⟩
        refine ⟨_, rfl, a, _, 1, _, rfl, rfl, ha', rfl, .inr (.inl ⟨p2, _, 0, _, rfl, rfl, g.tup h2, rfl, rfl, ?_⟩)⟩
        refine qB ?_ (q _ g)
        rw [dec_int, beq_eq_false_iff_ne.mpr hne]
        rfl
end
theorem MapR.ints {α : Type} {kvs : List (Key × V)} {f : Int → Option α} {R : α → V → Prop} (m : MapR kvs f R) : ∃ ks : List Int, kvs.map (fun p => p.1) = ks.map Sum.inl ∧ ks.Nodup ∧ ∀ b, b ∈ ks ↔ ∃ x, f b = some x := by
  have key : ∀ l : List (Key × V), (∀ p ∈ l, p ∈ kvs) → ∃ ks : List Int, l.map (fun p => p.1) = ks.map Sum.inl := fun l => by
    induction l with
    | nil => exact fun _ => ⟨[], rfl⟩
    | cons p r ih =>
      intro h
      obtain ⟨ks, e⟩ := ih fun q hq => h q (List.mem_cons_of_mem _ hq)
      obtain ⟨b, x, e1, _⟩ := m.snd p.1 p.2 (val_nodup m.nd p (h p List.mem_cons_self))
      exact ⟨b :: ks, by rw [List.map_cons, List.map_cons, e, e1]⟩
  obtain ⟨ks, e⟩ := key kvs fun _ h => h
  have mem : ∀ b, b ∈ ks ↔ (Sum.inl b : Key) ∈ kvs.map (fun p => p.1) := fun b => by
    rw [e, List.mem_map]
    constructor
    · intro h
      exact ⟨b, h, rfl⟩
    · rintro ⟨c, h, e2⟩
      rw [← Sum.inl.inj e2]
      exact h
  have nd : ks.Nodup := by
    have h := m.nd
    have h2 : (ks.map (Sum.inl : Int → Key)).Nodup := by rw [← e]; exact h
    exact List.Pairwise.of_map Sum.inl (fun a b h z => h (by rw [z])) h2
  refine ⟨ks, e, nd, fun b => ?_⟩
  rw [mem]
  constructor
  · intro h
    cases z : valV kvs (Sum.inl b) with
    | none => exact absurd h (valV_not z)
    | some v =>
      obtain ⟨b', x, e1, e2, _⟩ := m.snd _ _ z
      cases e1
      exact ⟨x, e2⟩
  · rintro ⟨x, h⟩
    obtain ⟨v, hv⟩ := m.cpl b x h
    exact valV_in hv
theorem ints_len {ks : List Int} (nd : ks.Nodup) (h : ∀ b ∈ ks, 4 ≤ b ∧ b < 64) : ks.length < 64 := by
  have q := nodup_le (l := ks) (m := (List.range 60).map fun (i : Nat) => (4 + (i : Int))) nd fun x hx => by
    have := h x hx
    exact List.mem_map.mpr ⟨(x - 4).toNat, List.mem_range.mpr (by omega), by omega⟩
  have q : ks.length ≤ 60 := by simpa using q
  omega

end SH

set_option Elab.async false
set_option linter.all false
set_option maxRecDepth 100000
set_option maxHeartbeats 4000000
namespace SH
open PySem PySem.Spec PyProof.Rows L2
structure Flt (M : Mp) (s : St) (e : Int) (rows : List (Int × Wd)) (bf : Int → Option Int) (bh : Int → Option (Int × Int)) (ns : List Int) : Prop where
  ty : ∀ c k p k', bf c = some k → bh c = some (p, k') → k = k'
  tk : ∀ c ∈ ns, bf c = none → ∀ x, bh c = some x → fillB s e c x.2 = true
  ab : ∀ c ∈ ns, ∀ r ∈ rows, ∀ x, Reach M r.1 x → x ≠ c
  gv : ∀ c k, bf c = some k → bh c = none → (¬ ∃ x k', M x = some (some c, k')) ∧ ∀ r ∈ rows, r.1 ≠ c
def sp_Blocks_alter_fault (K : PySem.W.Frag) : Sp := fun vs H Q _ => vs.length = 6 ∧ ∃ A n s L M C e v rows ba ha ca kb kh bf, ∃ bh : Int → Option (Int × Int), ∃ ns : List Int, vs = [.ref A.bl, .int e, v, .ref ba, .ref ha, .ref ca] ∧ BlkAt K A H n s ∧ InvB n gdF s L M C ∧ Env e ∧
  RwsV K H v rows ∧ rows.length ≤ 2 ∧ (∀ r ∈ rows, ∃ x, M e r.1 = some x) ∧ H ba = some (.dK kb) ∧ MapR kb bf IntV ∧ H ha = some (.dK kh) ∧ MapR kh (fun c => (bh c).map Prod.snd) IntV ∧ H ca = some (.lst (ns.map V.int)) ∧ ba ≠ ha ∧
  (∀ c ∈ ns, ∃ x, bh c = some x) ∧ (∀ c k, bf c = some k → 4 ≤ c ∧ c < n) ∧ (∀ c x, bh c = some x → 4 ≤ c ∧ c < n) ∧ ha ∉ A.all ∧
  ∀ (z : Str) H', Go [] H H' → (z = "" → Flt (M e) s e rows bf bh ns) → Q (.str z) H'
section
variable {P : Program} {w : World} {K : PySem.W.Frag} {mg : Str → Option Value} {base : Heap}
theorem ok_Blocks_alter_fault (T : Txt w K mg) (c_Blocks_is_above : C8.Met P w K mg base 6 (He.ga K "Blocks") "_is_above" (sp_Blocks_is_above K) []) (c_Blocks_is_filled : C8.Met P w K mg base 2 (He.ga K "Blocks") "_is_filled" (sp_Blocks_is_filled K) []) (c_Blocks_owns_something : C8.Met P w K mg base 6 (He.ga K "Blocks") "_owns_something" (sp_Blocks_owns_something K) []) : C8.Met P w K mg base 7 (He.ga K "Blocks") "_alter_fault" (sp_Blocks_alter_fault K) [] := by
  refine met_go T.f_Blocks_alter_fault T.k_Blocks T.me_Blocks_alter_fault sc_Blocks_alter_fault (fun _ _ _ _ _ _ us hl => match us, hl with | [_, _, _, _, _, _], _ => rfl) (fun _ _ _ _ h => h.1) fun cdv A outer s H vs Q E hr h => ?_
  have hu := hu_of hr
  refine ⟨_, (pss_cons (ps_if (pt_val (pe_callB (cr_any rfl) (by rfl) T.b_any (by decide +kernel) (pa_cons (pe_lock (pe_lc (own := [("child", 6)]) rfl sc_Blocks_alter_fault.nd (pi_keys (pv 4)) (blkOk_by (own := [("child", 6)]) (N := n_Blocks_alter_fault) (sc := defScope s_Blocks_alter_fault) (by decide +kernel)) (fun _ _ _ _ _ => (pg_name (i := 6) sc_Blocks_alter_fault.nd rfl (by first | exact Or.inl rfl | exact Or.inr rfl))) (fun _ _ _ _ _ => pts_nil) (fun _ _ _ _ _ => (pe_and (pe_cmp (pc_din hu (pv 6) (pv 3))) (pe_one (pe_cmpR op_ne (pe_dget hu (pv 3) (pv 6) (fun _ _ => rfl)) (pe_dget hu (pv 4) (pv 6) (fun _ _ => rfl)) (nomark _))))))) pa_nil))) (pss_one (ps_ret pe_str)) pss_nil)
    (pss_cons (ps_for PassesOwn.never rfl (pi_list (pv 5)) (pg_name (i := 6) sc_Blocks_alter_fault.nd rfl (by first | exact Or.inl rfl | exact Or.inr rfl)) (pss_cons (ps_if (PW.pt (pw_and (pt_cmp (pc_dnotin hu (pv 6) (pv 3))) (pw_and1 (pt_not (pt_val (C8.pe_mt c_Blocks_is_filled hr (by decide) (pv 0) (pa_cons (pv 1) (pa_cons (pv 6) (pa_cons (pe_dget hu (pv 4) (pv 6) (fun _ _ => rfl)) pa_nil))))))))) (pss_one (ps_ret pe_str)) pss_nil)
    (pss_one (ps_if (pt_val (C8.pe_mt c_Blocks_is_above hr (by decide) (pv 0) (pa_cons (pv 1) (pa_cons (pv 2) (pa_cons (pv 6) pa_nil))))) (pss_one (ps_ret pe_str)) pss_nil))))
    (pss_cons (ps_for PassesOwn.never rfl (pi_list (pe_callB (call_sortedDI rfl) (by rfl) T.b_sorted (by decide +kernel) (pa_cons (pv 3) pa_nil))) (pg_name (i := 6) sc_Blocks_alter_fault.nd rfl (by first | exact Or.inl rfl | exact Or.inr rfl)) (pss_one (ps_if (pt_cmp (pc_dnotin hu (pv 6) (pv 4))) (pss_one (ps_if (PW.pt (pw_or (pt_val (C8.pe_mt c_Blocks_owns_something hr (by decide) (pv 0) (pa_cons (pv 1) (pa_cons (pv 6) pa_nil)))) (pw_or1 (pt_cmpR (show OpR _ _ (rIn K false) from op_in_seq) (pv 6) (pe_lc (own := [("block", 7), ("_", 8)]) rfl sc_Blocks_alter_fault.nd (pi_tup (pv 2)) (blkOk_by (own := [("block", 7), ("_", 8)]) (N := n_Blocks_alter_fault) (sc := defScope s_Blocks_alter_fault) (by decide +kernel)) (fun _ _ _ _ _ => (pg_tupK K (n := 2) rfl rfl (pgs_cons (pg_name (i := 7) sc_Blocks_alter_fault.nd rfl (by first | exact Or.inl rfl | exact Or.inr rfl)) (pgs_cons (pg_name (i := 8) sc_Blocks_alter_fault.nd rfl (by first | exact Or.inl rfl | exact Or.inr rfl)) pgs_nil)))) (fun _ _ _ _ _ => pts_nil) (fun _ _ _ _ _ => (pv 7))) (by rfl))))) (pss_one (ps_ret pe_str)) pss_nil)) pss_nil)))
    (pss_one (ps_ret pe_str))))), ?_⟩
  obtain ⟨_, A, n, s, L, M, C, e, v, rows, ba, ha, ca, kb, kh, bf, bh, ns, rfl, B, I, he, hrw, hrl, hrM, hba, mb, hha, mh, hca, nbh, hns, rbf, rbh, nhA, q⟩ := h
  have hn0 := B.disk.n0
  have hbas := I.bas
  have hrw' := hrw
  obtain ⟨ts, ⟨ra, rfl, hra⟩, hts⟩ := hrw'
  have hkl : kh.length ≤ 64 := mh.len (n := 64) fun b x hb => by
    cases hh : bh b with
    | none => rw [hh] at hb; cases hb
    | some y =>
      have := rbh b y hh
      omega
  have bad : ∀ (z : Str) (H' : Hp), Go [] H H' → z ≠ "" → Q (.str z) H' := fun z H' g hz => q z H' g fun e => absurd e hz
  have ncb : ca ≠ ba := ne_of hca hba (by simp)
  have nch : ca ≠ ha := ne_of hca hha (by simp)
  refine ⟨ha, _, hha, trivial, fun od => ?_⟩
  have gl0 : Go [ha] H (upd H ha (.frz od (.dK kh))) := Go.lock0 hha trivial
  have gl := fun H' => @Go.lock H H' ha (.dK kh) od hha trivial
  have h1h : upd H ha (.frz od (.dK kh)) ha = some (.frz od (.dK kh)) := upd_same
  have h1b : upd H ha (.frz od (.dK kh)) ba = some (.dK kb) := by rw [upd_ne nbh]; exact hba
  generalize upd H ha (.frz od (.dK kh)) = H1 at gl0 gl h1h h1b ⊢
  refine ⟨_, rfl, ha, od, rfl, .inl ⟨kh, h1h, ?_⟩⟩
  refine lc_go (Z := []) (fun i acc _ => ∃ bs : List Bool, acc = bs.map V.bl ∧ (bs.any id = false → ∀ c, (Sum.inl c : Key) ∈ (kh.take i).map (fun p : Key × V => p.1) → ∀ k p k', bf c = some k → bh c = some (p, k') → k = k')) wk_keys (le_sl (by omega)) no_z (fun H' g => g.at h1h) (fun _ _ => ⟨[], rfl, fun _ c h => by cases h⟩) (fun _ _ _ _ _ _ h _ => h) ?_ ?_
  · rintro i x acc H' hi ⟨k0, v, hkv, rfl⟩ hl g ⟨bs, rfl, hbs⟩ K1 K2 kk1 kk2
    obtain ⟨c, kk, rfl, hc, hv0⟩ := mh.at hkv
    obtain ⟨hnt, htk⟩ := nd_take mh.nd hkv
    have hv : valV kh (Sum.inl c) = some v := val_nodup mh.nd (Sum.inl c, v) (List.mem_of_getElem? hkv)
    have dg : DGet H' ha (kV (Sum.inl c)) (some v) := .inl ⟨kh, Sum.inl c, .inr ⟨od, g.at h1h⟩, rfl, hv.symm⟩
    have hv1 : v = .int kk := hv0
    subst hv1
    have add : ∀ (b : Bool), (b = false → ∀ k p k', bf c = some k → bh c = some (p, k') → k = k') → K1 (.bl b) H' := fun b hb => kk1 _ _ Go.refl ⟨bs ++ [b], by rw [List.map_append] <;> rfl, fun hany c' hc' => by
      rw [List.any_append, Bool.or_eq_false_iff] at hany
      rw [htk] at hc'
      rcases List.mem_append.mp hc' with z | z
      · exact hbs hany.1 c' z
      · have : c' = c := Sum.inl.inj (List.mem_singleton.mp z)
        subst this
        refine hb ?_
        have := hany.2
        simpa using this⟩
    refine ⟨rfl, _, rfl, _, rfl, ba, _, rfl, DGet.k (k := Sum.inl c) (g.at h1b), _, rfl, ?_⟩
    rw [mb.isSome]
    cases hbc : bf c with
    | none => exact add false fun _ k p k' h => by rw [hbc] at h; cases h
    | some k =>
      obtain ⟨vb, hvb, hvb2⟩ := mb.gets hbc
      have hvb3 : vb = .int k := hvb2
      subst hvb3
      have dgb := DGet.k (k := Sum.inl c) (g.at h1b)
      rw [hvb] at dgb
      refine ⟨_, rfl, _, rfl, ba, _, rfl, dgb, _, rfl, _, rfl, ha, _, rfl, dg, rfl, add _ fun hd k2 p k' h1 h2 => ?_⟩
      rw [hbc] at h1
      cases h1
      rw [h2] at hc
      cases hc
      rw [dec_int] at hd
      by_cases z : k = k'
      · exact z
      · rw [beq_eq_false_iff_ne.mpr z] at hd
        cases hd
  rintro lb acc H2 hlb g2 hacc hl2 ⟨bs, rfl, hbs⟩
  rw [List.take_length] at hbs
  refine ⟨g2.at h1h, ?_⟩
  have g3 := gl H2 g2
  have nlb : lb ≠ ha := (ne_of_none h1h hlb).symm
  have h3l : upd H2 ha (.dK kh) lb = some (.lst (bs.map V.bl)) := by rw [upd_ne nlb]; exact hacc
  have h3h : upd H2 ha (.dK kh) ha = some (.dK kh) := upd_same
  generalize upd H2 ha (.dK kh) = H3 at g3 h3l h3h ⊢
  refine ⟨lb, bs, rfl, .inl (.inl h3l), _, rfl, ?_⟩
  cases hany : bs.any id with
  | true => exact bad _ _ g3 (by decide)
  | false =>
  have hty : ∀ c k p k', bf c = some k → bh c = some (p, k') → k = k' := fun c k p k' h1 h2 => by
    obtain ⟨v, hv⟩ := mh.cpl c k' (by rw [h2] <;> rfl)
    exact hbs hany c (valV_in hv) k p k' h1 h2
  refine ⟨_, rfl, ca, rfl, ⟨_, .inl (.inl (g3.at hca))⟩, ?_⟩
  refine for_it wk_list (fun i σ H' => ∃ x6 x7 x8, σ = [some (.ref A.bl), some (.int e), some (.ref ra), some (.ref ba), some (.ref ha), some (.ref ca), x6, x7, x8] ∧ Go [] H H' ∧ ∀ c ∈ ns.take i, (bf c = none → ∀ x, bh c = some x → fillB s e c x.2 = true) ∧ ∀ r ∈ rows, ∀ x, Reach (M e) r.1 x → x ≠ c)
    ⟨_, _, _, rfl, g3, fun c h => by cases h⟩ (fun i σ H' _ p => by obtain ⟨_, _, _, _, g, _⟩ := p; exact .inl (.inl (g.at hca))) ?_ ?_
  · rintro i x σ H0 H4 hi ⟨x6, x7, x8, rfl, g4, hall⟩ ⟨rfl, hx⟩
    obtain ⟨c, hc, rfl⟩ := map_at hx
    obtain ⟨y, hy⟩ := hns c (List.mem_of_getElem? hc)
    have B4 := B.go g4
    have e1 : ns.take (i + 1) = ns.take i ++ [c] := by rw [List.take_add_one, hc] <;> rfl
    have second : (bf c = none → ∀ x, bh c = some x → fillB s e c x.2 = true) → tIfS (tB (tMeth (He.ga K "Blocks") "_is_above" (sp_Blocks_is_above K) [] C8.E0 (tVar 0) (tCons (tVar 1) (tCons (tVar 2) (tCons (tVar 6) tNil))))) (tRet (tC (.str "takes"))) tNext
        { nx := fun σ H' => ∃ x6 x7 x8, σ = [some (.ref A.bl), some (.int e), some (.ref ra), some (.ref ba), some (.ref ha), some (.ref ca), x6, x7, x8] ∧ Go [] H H' ∧ ∀ c ∈ ns.take (i + 1), (bf c = none → ∀ x, bh c = some x → fillB s e c x.2 = true) ∧ ∀ r ∈ rows, ∀ x, Reach (M e) r.1 x → x ≠ c, rt := Q }
        [some (.ref A.bl), some (.int e), some (.ref ra), some (.ref ba), some (.ref ha), some (.ref ca), some (.int c), x7, x8] H4 := by
      intro h1
      refine ⟨_, rfl, A.bl, _, _, rfl, B4.ins, rfl, _, rfl, _, rfl, _, rfl, rfl, A, n, s, e, L, M, C, .ref ra, rows, c, rfl, B4, I, he, hrw.go g4, hrl, hrM, fun r H5 g5 hr => ⟨_, rfl, ?_⟩⟩
      cases r with
      | true => exact bad _ _ (g4.trans g5) (by decide)
      | false =>
        refine ⟨_, _, _, rfl, g4.trans g5, fun c' hc' => ?_⟩
        rw [e1] at hc'
        rcases List.mem_append.mp hc' with z | z
        · exact hall c' z
        · rw [List.mem_singleton.mp z]
          exact ⟨h1, hr rfl⟩
    refine ⟨_, rfl, _, rfl, ba, _, rfl, DGet.k (k := Sum.inl c) (g4.at hba), _, rfl, ?_⟩
    rw [mb.isSome]
    cases hbc : bf c with
    | some k => exact second fun h => by rw [hbc] at h; cases h
    | none =>
      obtain ⟨vh, hvh, hvh2⟩ := mh.gets (b := c) (x := y.2) (by rw [hy] <;> rfl)
      have hvh3 : vh = .int y.2 := hvh2
      subst hvh3
      have dgh := DGet.k (k := Sum.inl c) (g4.at hha)
      rw [hvh] at dgh
      refine ⟨_, rfl, A.bl, _, _, rfl, B4.ins, rfl, _, rfl, _, rfl, _, rfl, _, rfl, ha, _, rfl, dgh, rfl, A, n, s, e, c, y.2, rfl, B4, _, rfl, ?_⟩
      cases hfl : fillB s e c y.2 with
      | false => exact bad _ _ g4 (by decide)
      | true =>
        refine second fun _ x hx' => ?_
        rw [hy] at hx'
        cases hx'
        exact hfl
  rintro σ H4 ⟨x6, x7, x8, rfl, g4, hall⟩
  rw [List.length_map, List.take_length] at hall
  obtain ⟨ks, hks, hknd, hkm⟩ := mb.ints
  refine ⟨_, rfl, ba, kb, ks, rfl, .inl (g4.at hba), hks, ints_len hknd fun b hb => by
    obtain ⟨x, hx⟩ := (hkm b).mp hb
    have := rbf b x hx
    omega, fun ys p hperm _ hp => ⟨p, rfl, ⟨_, .inl (.inl upd_same)⟩, ?_⟩⟩
  have g5 : Go [] H4 (upd H4 p (.lst (ys.map V.int))) := Go.new hp
  have h5p : upd H4 p (.lst (ys.map V.int)) p = some (.lst (ys.map V.int)) := upd_same
  have hp0 : H p = none := g4.free hp
  generalize upd H4 p (.lst (ys.map V.int)) = H5 at g5 h5p ⊢
  refine for_it wk_list (fun i σ H' => ∃ x6 x7 x8, σ = [some (.ref A.bl), some (.int e), some (.ref ra), some (.ref ba), some (.ref ha), some (.ref ca), x6, x7, x8] ∧ Go [] H H' ∧ H' p = some (.lst (ys.map V.int)) ∧ ∀ c ∈ ys.take i, bh c = none → (¬ ∃ x k', M e x = some (some c, k')) ∧ ∀ r ∈ rows, r.1 ≠ c)
    ⟨_, _, _, rfl, g4.trans g5, h5p, fun c h => by cases h⟩ (fun i σ H' _ p => by obtain ⟨_, _, _, _, _, h, _⟩ := p; exact .inl (.inl h)) ?_ ?_
  · rintro i x σ H0 H6 hi ⟨x6, x7, x8, rfl, g6, hp6, hg⟩ ⟨rfl, hx⟩
    obtain ⟨c, hc, rfl⟩ := map_at hx
    have B6 := B.go g6
    have e1 : ys.take (i + 1) = ys.take i ++ [c] := by rw [List.take_add_one, hc] <;> rfl
    have done : ∀ (y6 y7 y8 : Option V) H7, Go [] H6 H7 → (bh c = none → (¬ ∃ x k', M e x = some (some c, k')) ∧ ∀ r ∈ rows, r.1 ≠ c) → (∃ x6 x7 x8, [some (V.ref A.bl), some (V.int e), some (V.ref ra), some (V.ref ba), some (V.ref ha), some (V.ref ca), y6, y7, y8] = [some (.ref A.bl), some (.int e), some (.ref ra), some (.ref ba), some (.ref ha), some (.ref ca), x6, x7, x8] ∧ Go [] H H7 ∧ H7 p = some (.lst (ys.map V.int)) ∧ ∀ c ∈ ys.take (i + 1), bh c = none → (¬ ∃ x k', M e x = some (some c, k')) ∧ ∀ r ∈ rows, r.1 ≠ c) := fun y6 y7 y8 H7 g7 hcc =>
      ⟨_, _, _, rfl, g6.trans g7, g7.at hp6, fun c' hc' => by
        rw [e1] at hc'
        rcases List.mem_append.mp hc' with z | z
        · exact hg c' z
        · rw [List.mem_singleton.mp z]
          exact hcc⟩
    refine ⟨_, rfl, _, rfl, ha, _, rfl, DGet.k (k := Sum.inl c) (g6.at hha), _, rfl, ?_⟩
    rw [mh.isSome]
    cases hbc : bh c with
    | some y => exact done _ _ _ _ Go.refl fun h => by rw [hbc] at h; cases h
    | none =>
      refine ⟨_, rfl, A.bl, _, _, rfl, B6.ins, rfl, _, rfl, _, rfl, rfl, A, n, s, e, c, L, M, C, rfl, B6, I, he, fun r H7 g7 hr => ⟨_, rfl, ?_⟩⟩
      cases r with
      | true => exact bad _ _ (g6.trans g7) (by decide)
      | false =>
        have g67 := g6.trans g7
        refine ⟨_, rfl, _, rfl, ra, rfl, ⟨_, g67.tup hra⟩, ?_⟩
        refine lc_go (Z := []) (fun i acc _ => acc = ((rows.take i).map Prod.fst).map V.int) wk_tup (le_sl (by have := hts.length; omega)) no_z (fun H' g => g.tup (g67.tup hra)) (fun _ _ => rfl) (fun _ _ _ _ _ _ h _ => h) ?_ ?_
        · intro j x acc H' hj hx hl g hR K1 K2 k1 k2
          obtain ⟨r, hr', u, ⟨t, rfl, ht⟩, hu⟩ := paired_at hts hx
          have e2 : rows.take (j + 1) = rows.take j ++ [r] := by rw [List.take_add_one, hr'] <;> rfl
          refine ⟨t, _, rfl, g.tup (g67.tup ht), rfl, _, _, rfl, _, _, rfl, rfl, rfl, _, rfl, k1 _ _ Go.refl ?_⟩
          rw [hR, e2, List.map_append, List.map_append] <;> rfl
        · intro D acc H' hD g hacc hl hR
          rw [hts.length, List.take_length] at hR
          subst hR
          refine ⟨D, _, rfl, .inl (.inl (.inl hacc)), rfl, by rw [List.all_map]; exact List.all_eq_true.mpr fun _ _ => rfl, _, rfl, ?_⟩
          show if inV (V.int c) ((rows.map Prod.fst).map V.int) = true then _ else _
          cases hin : inV (V.int c) ((rows.map Prod.fst).map V.int) with
          | true => exact bad _ _ (g67.trans g) (by decide)
          | false =>
            refine done _ _ _ _ (g7.trans g) fun _ => ⟨fun ⟨x, k', z⟩ => ?_, fun r' hr' z => ?_⟩
            · have := hr.mpr ⟨x, k', z⟩
              cases this
            · have : inV (V.int c) ((rows.map Prod.fst).map V.int) = true := inV_int.mpr (List.mem_map.mpr ⟨r', hr', z⟩)
              rw [hin] at this
              cases this
  · rintro σ H6 ⟨x6, x7, x8, rfl, g6, hp6, hg⟩
    rw [List.length_map, List.take_length] at hg
    refine q _ _ g6 fun _ => ⟨hty, fun c hc => (hall c hc).1, fun c hc => (hall c hc).2, fun c k h1 h2 => hg c (hperm.mem_iff.mpr ((hkm c).mpr ⟨k, h1⟩)) h2⟩
end

end SH

set_option Elab.async false
set_option linter.all false
set_option maxRecDepth 100000
set_option maxHeartbeats 4000000
namespace SH
open PySem PySem.Spec PyProof.Rows L2
def lk (cs : List (Int × Int)) (c : Int) : Option Int := (cs.find? fun p => decide (p.1 = c)).map (·.2)
theorem lk_iff {cs : List (Int × Int)} (h : (cs.map (·.1)).Nodup) {c k : Int} : lk cs c = some k ↔ (c, k) ∈ cs := by
  induction cs with
  | nil => simp [lk]
  | cons p r ih =>
    obtain ⟨a, b⟩ := p
    obtain ⟨h1, h2⟩ := List.nodup_cons.mp (show (a :: r.map (·.1)).Nodup from h)
    have ih := ih h2
    by_cases e : a = c
    · subst e
      have e1 : lk ((a, b) :: r) a = some b := by simp [lk]
      rw [e1]
      constructor
      · intro z
        rw [Option.some.inj z]
        exact List.mem_cons_self
      · intro z
        rcases List.mem_cons.mp z with z | z
        · injection z with _ z
          rw [z]
        · exact absurd (List.mem_map.mpr ⟨(a, k), z, rfl⟩) h1
    · have e1 : lk ((a, b) :: r) c = lk r c := by simp [lk, e]
      rw [e1, ih]
      constructor
      · exact List.mem_cons_of_mem _
      · intro z
        rcases List.mem_cons.mp z with z | z
        · injection z with z _
          exact absurd z.symm e
        · exact z
theorem lk_none {cs : List (Int × Int)} {c : Int} (h : lk cs c = none) : ∀ k, (c, k) ∉ cs := fun k m => by
  unfold lk at h
  cases e : cs.find? fun p => decide (p.1 = c) with
  | none =>
    have := List.find?_eq_none.mp e (c, k) m
    simp at this
  | some p => rw [e] at h; cases h
def csK (cs : List (Int × Int)) : List (Key × V) := cs.map fun c => (Sum.inl c.1, V.int c.2)
theorem lk_map : ∀ {cs : List (Int × Int)}, (cs.map (·.1)).Nodup → MapR (csK cs) (lk cs) IntV
  | [], _ => MapR.nil.congr fun b => rfl
  | (a, b) :: r, h => by
    obtain ⟨h1, h2⟩ := List.nodup_cons.mp (show (a :: r.map (·.1)).Nodup from h)
    have ih := lk_map h2
    have ek : (csK r).map (fun p => p.1) = (r.map (·.1)).map (Sum.inl : Int → Key) := by
      unfold csK
      rw [List.map_map, List.map_map] <;> rfl
    refine ⟨?_, fun k v hk => ?_, fun c k hk => ?_⟩
    · show ((Sum.inl a : Key) :: (csK r).map (fun p => p.1)).Nodup
      refine List.nodup_cons.mpr ⟨fun m => ?_, ih.nd⟩
      rw [ek] at m
      obtain ⟨x, hx, e⟩ := List.mem_map.mp m
      exact h1 (by rw [← Sum.inl.inj e]; exact hx)
    · by_cases e : (Sum.inl a : Key) = k
      · have : valV (csK ((a, b) :: r)) k = some (V.int b) := valV_pos (p := ((Sum.inl a : Key), V.int b)) e
        rw [this] at hk
        cases hk
        exact ⟨a, b, e.symm, by simp [lk], rfl⟩
      · have : valV (csK ((a, b) :: r)) k = valV (csK r) k := valV_neg (p := ((Sum.inl a : Key), V.int b)) e
        rw [this] at hk
        obtain ⟨c, x, e1, e2, e3⟩ := ih.snd k v hk
        refine ⟨c, x, e1, ?_, e3⟩
        have hne : a ≠ c := fun z => e (by rw [e1, z])
        rw [← e2]
        simp [lk, hne]
    · by_cases e : a = c
      · subst e
        exact ⟨V.int b, valV_pos (p := ((Sum.inl a : Key), V.int b)) rfl⟩
      · have : lk ((a, b) :: r) c = lk r c := by simp [lk, e]
        rw [this] at hk
        obtain ⟨v, hv⟩ := ih.cpl c k hk
        refine ⟨v, ?_⟩
        rw [← hv]
        exact valV_neg (p := ((Sum.inl a : Key), V.int b)) fun z => e (Sum.inl.inj z)
theorem lk_dict {cs : List (Int × Int)} (h : (cs.map (·.1)).Nodup) : MapR (mergeK [] (csK cs)) (lk cs) IntV :=
  (MapR.merge (MapR.nil (α := Int)) (lk_map h)).congr fun b => by
    cases lk cs b <;> rfl
theorem cs_pairs {K : PySem.W.Frag} {H : Hp} : ∀ {ps : List Addr} {cs : List (Int × Int)}, Paired (fun p c => SqT K H p [.int c.1, .int c.2]) ps cs → Paired (fun p (kv : Key × V) => SqT K H p [kV kv.1, kv.2]) ps (csK cs)
  | _, _, .nil => .nil
  | _, _, .cons r t => .cons r (cs_pairs t)
theorem fill_kept {s : St} {e c k : Int} (h : fillB s e c k = true) : s.kept c = some (e, some k) := by
  unfold fillB holdB at h
  cases hc : s.kept c with
  | none => rw [hc] at h; cases h
  | some p =>
    obtain ⟨f, kf⟩ := p
    rw [hc] at h
    have h := Bool.and_eq_true_iff.mp h
    have h1 : f = e := of_decide_eq_true h.1
    have h2 : kf = some k := of_decide_eq_true h.2
    rw [h1, h2]
structure AP (K : PySem.W.Frag) (M : Mp) (n : Int) (rows : List (Int × Wd)) (H : Hp) (ba ha ca : Addr) (i : Nat) (bf : Int → Option Int) (bh : Int → Option (Int × Int)) (ns : List Int) : Prop where
  b : ∃ kb, H ba = some (.dK kb) ∧ MapR kb bf IntV
  h : ∃ kh, H ha = some (.dK kh) ∧ MapR kh (fun c => (bh c).map Prod.snd) IntV
  c : H ca = some (.lst (ns.map V.int))
  cl : ns.length ≤ 64 * i
  bfI : ∀ c k, bf c = some k ↔ ∃ p w, (p, w) ∈ rows.take i ∧ M c = some (some p, some k)
  bhI : ∀ c p k, bh c = some (p, k) ↔ ∃ w, (p, w) ∈ rows.take i ∧ ∃ o t cs, M p = some (o, some t) ∧ own n gdF t w = some cs ∧ (c, k) ∈ cs
  cs1 : ∀ c p k, bh c = some (p, k) → (∀ k', M c ≠ some (some p, some k')) → c ∈ ns
  cs2 : ∀ c ∈ ns, ∃ x, bh c = some x
  ow : ∀ p w, (p, w) ∈ rows.take i → ∀ o t, M p = some (o, some t) → ∃ cs, own n gdF t w = some cs
def bfN (cs : List (Int × Int)) (bf : Int → Option Int) : Int → Option Int := fun c => match lk cs c with
  | some y => some y
  | none => bf c
def bhN (cs : List (Int × Int)) (p : Int) (bh : Int → Option (Int × Int)) : Int → Option (Int × Int) := fun c => match lk cs c with
  | some k => some (p, k)
  | none => bh c
theorem AP.step {K : PySem.W.Frag} {M : Mp} {n : Int} {rows : List (Int × Wd)} {H H' : Hp} {ba ha ca : Addr} {i : Nat} {bf : Int → Option Int} {bh : Int → Option (Int × Int)} {ns ms : List Int} {p : Int} {w : Wd} {o : Option Int} {t : Int} {cs0 cs1 : List (Int × Int)}
    (a : AP K M n rows H ba ha ca i bf bh ns) (hr : rows[i]? = some (p, w)) (hM : M p = some (o, some t)) (h0 : (cs0.map (·.1)).Nodup) (hcs0 : ∀ c k, (c, k) ∈ cs0 ↔ M c = some (some p, some k)) (hown : own n gdF t w = some cs1)
    (htw : ∀ c ∈ cs1, bh c.1 = none) (hms : ∀ c, c ∈ ms ↔ ∃ k, (c, k) ∈ cs1 ∧ lk cs0 c = none) (hml : ms.length ≤ 64)
    (b' : ∃ kb, H' ba = some (.dK kb) ∧ MapR kb (bfN cs0 bf) IntV) (h' : ∃ kh, H' ha = some (.dK kh) ∧ MapR kh (fun c => (bhN cs1 p bh c).map Prod.snd) IntV) (c' : H' ca = some (.lst ((ns ++ ms).map V.int))) :
    AP K M n rows H' ba ha ca (i + 1) (bfN cs0 bf) (bhN cs1 p bh) (ns ++ ms) := by
  have e1 : rows.take (i + 1) = rows.take i ++ [(p, w)] := by rw [List.take_add_one, hr] <;> rfl
  have h1 := (own_fnd hown).1
  have l0 := fun c k => lk_iff (c := c) (k := k) h0
  have l1 := fun c k => lk_iff (c := c) (k := k) h1
  refine ⟨b', h', c', by rw [List.length_append]; have := a.cl; omega, fun c k => ?_, fun c p' k => ?_, fun c p' k hb hM' => ?_, fun c hc => ?_, fun p' w' hp' o' t' hM' => ?_⟩
  · rw [e1]
    unfold bfN
    cases hl : lk cs0 c with
    | some y =>
      have hy := (hcs0 c y).mp ((l0 c y).mp hl)
      constructor
      · intro z
        rw [← Option.some.inj z]
        exact ⟨p, w, List.mem_append_right _ List.mem_cons_self, hy⟩
      · rintro ⟨p', w', _, z⟩
        rw [hy] at z
        injection z with z
        injection z with _ z
    | none =>
      show bf c = some k ↔ _
      rw [a.bfI]
      constructor
      · rintro ⟨p', w', z1, z2⟩
        exact ⟨p', w', List.mem_append_left _ z1, z2⟩
      · rintro ⟨p', w', z1, z2⟩
        rcases List.mem_append.mp z1 with z | z
        · exact ⟨p', w', z, z2⟩
        · injection List.mem_singleton.mp z with z3 z4
          rw [z3] at z2
          exact absurd ((hcs0 c k).mpr z2) (lk_none hl k)
  · rw [e1]
    unfold bhN
    cases hl : lk cs1 c with
    | some y =>
      have hy := (l1 c y).mp hl
      constructor
      · intro z
        injection z with z
        injection z with z1 z2
        subst z1 z2
        exact ⟨w, List.mem_append_right _ List.mem_cons_self, o, t, cs1, hM, hown, hy⟩
      · rintro ⟨w', z1, o', t', cs', z2, z3, z4⟩
        rcases List.mem_append.mp z1 with z | z
        · have := (a.bhI c p' k).mpr ⟨w', z, o', t', cs', z2, z3, z4⟩
          rw [htw _ hy] at this
          cases this
        · injection List.mem_singleton.mp z with z5 z6
          subst z5 z6
          rw [hM] at z2
          injection z2 with z2
          injection z2 with _ z2
          injection z2 with z2
          subst z2
          rw [hown] at z3
          cases z3
          have := (l1 c k).mpr z4
          rw [hl] at this
          cases this
          rfl
    | none =>
      show bh c = some (p', k) ↔ _
      rw [a.bhI]
      constructor
      · rintro ⟨w', z1, z2⟩
        exact ⟨w', List.mem_append_left _ z1, z2⟩
      · rintro ⟨w', z1, o', t', cs', z2, z3, z4⟩
        rcases List.mem_append.mp z1 with z | z
        · exact ⟨w', z, o', t', cs', z2, z3, z4⟩
        · injection List.mem_singleton.mp z with z5 z6
          subst z5 z6
          rw [hM] at z2
          injection z2 with z2
          injection z2 with _ z2
          injection z2 with z2
          subst z2
          rw [hown] at z3
          cases z3
          exact absurd z4 (lk_none hl k)
  · unfold bhN at hb
    cases hl : lk cs1 c with
    | some y =>
      rw [hl] at hb
      injection hb with hb
      injection hb with z1 z2
      subst z1 z2
      refine List.mem_append_right _ ((hms c).mpr ⟨y, (l1 c y).mp hl, ?_⟩)
      cases hl0 : lk cs0 c with
      | none => rfl
      | some y0 => exact absurd ((hcs0 c y0).mp ((l0 c y0).mp hl0)) (hM' y0)
    | none =>
      rw [hl] at hb
      exact List.mem_append_left _ (a.cs1 c p' k hb hM')
  · unfold bhN
    cases hl : lk cs1 c with
    | some y => exact ⟨_, rfl⟩
    | none =>
      rcases List.mem_append.mp hc with z | z
      · exact a.cs2 c z
      · obtain ⟨k, z1, _⟩ := (hms c).mp z
        exact absurd z1 (lk_none hl k)
  · rw [e1] at hp'
    rcases List.mem_append.mp hp' with z | z
    · exact a.ow p' w' z o' t' hM'
    · injection List.mem_singleton.mp z with z5 z6
      subst z5 z6
      rw [hM] at hM'
      injection hM' with hM'
      injection hM' with _ hM'
      injection hM' with hM'
      subst hM'
      exact ⟨cs1, hown⟩

end SH

set_option Elab.async false
set_option linter.all false
set_option maxRecDepth 100000
set_option maxHeartbeats 4000000
namespace SH
open PySem PySem.Spec PyProof.Rows L2
theorem BlkAt.goM {K : PySem.W.Frag} {A : Ad} {H H' : Hp} {n : Int} {s : St} {p : Addr} (B : BlkAt K A H n s) (g : Go [p] H H') (h : p ∉ A.all) : BlkAt K A H' n s := B.goZ g fun a ha => by
  simp only [List.mem_singleton]
  intro z
  rw [z] at ha
  exact h ha
theorem nd_fst : ∀ {l : List (Int × Wd)}, (l.map Prod.fst).Nodup → ∀ {p : Int} {w w' : Wd}, (p, w) ∈ l → (p, w') ∈ l → w = w'
  | [], _, p, w, w', h, _ => by cases h
  | a :: r, h, p, w, w', h1, h2 => by
    obtain ⟨k1, k2⟩ := List.nodup_cons.mp (show (a.1 :: r.map Prod.fst).Nodup from h)
    rcases List.mem_cons.mp h1 with e1 | h1
    · rcases List.mem_cons.mp h2 with e2 | h2
      · rw [← e1] at e2
        injection e2 with _ e2
        exact e2.symm
      · exact absurd (List.mem_map.mpr ⟨_, h2, by rw [← e1]⟩) k1
    · rcases List.mem_cons.mp h2 with e2 | h2
      · exact absurd (List.mem_map.mpr ⟨_, h1, by rw [← e2]⟩) k1
      · exact nd_fst k2 h1 h2
def sp_Blocks_alter (K : PySem.W.Frag) : Sp := fun vs H Q _ => vs.length = 3 ∧ ∃ A n s L M C e v rows, vs = [.ref A.bl, .int e, v] ∧ BlkAt K A H n s ∧ InvB n gdF s L M C ∧ Env e ∧ RwsV K H v rows ∧ (1 ≤ rows.length ∧ rows.length ≤ 2) ∧ (rows.map Prod.fst).Nodup ∧ (∀ r ∈ rows, Okw r.2 ∧ Clean e r.2) ∧ ∀ v H', After K A n H H' → Q v H'
section
variable {P : Program} {w : World} {K : PySem.W.Frag} {mg : Str → Option Value} {base : Heap}
theorem ok_Blocks_alter (T : Txt w K mg) (c_no : C8.Cal P w K mg base 1 "no" (sp_no K) []) (c_Blocks_alter_fault : C8.Met P w K mg base 7 (He.ga K "Blocks") "_alter_fault" (sp_Blocks_alter_fault K) []) (c_Blocks_has_buffer : C8.Met P w K mg base 1 (He.ga K "Blocks") "_has_buffer" (sp_Blocks_has_buffer K) []) (c_Blocks_is_rows : C8.Met P w K mg base 4 (He.ga K "Blocks") "_is_rows" (sp_Blocks_is_rows K) []) (c_Blocks_types_in : C8.Met P w K mg base 6 (He.ga K "Blocks") "_types_in" (sp_Blocks_types_in K) []) (c_Types_owned : C8.Met P w K mg base 3 (He.ga K "Types") "owned" (sp_Types_owned K) []) : C8.Met P w K mg base 8 (He.ga K "Blocks") "_alter" (sp_Blocks_alter K) [] := by
  refine met_go T.f_Blocks_alter T.k_Blocks T.me_Blocks_alter sc_Blocks_alter (fun _ _ _ _ _ _ us hl => match us, hl with | [_, _, _], _ => rfl) (fun _ _ _ _ h => h.1) fun cdv A outer s H vs Q E hr h => ?_
  have hu := hu_of hr
  refine ⟨_, (pss_cons (ps_if (pt_not (pt_val (C8.pe_mt c_Blocks_is_rows hr (by decide) (pv 0) (pa_cons (pv 2) pa_nil)))) (pss_one (ps_ret (C8.pe_gc (by rfl) T.g_BAD))) pss_nil)
    (pss_cons (ps_if (pt_not (pt_val (pe_callB (cr_all rfl) (by rfl) T.b_all (by decide +kernel) (pa_cons (pe_lc (own := [("block", 7), ("_", 13)]) rfl sc_Blocks_alter.nd (pi_tup (pv 2)) (blkOk_by (own := [("block", 7), ("_", 13)]) (N := n_Blocks_alter) (sc := defScope s_Blocks_alter) (by decide +kernel)) (fun _ _ _ _ _ => (pg_tupK K (n := 2) rfl rfl (pgs_cons (pg_name (i := 7) sc_Blocks_alter.nd rfl (by first | exact Or.inl rfl | exact Or.inr rfl)) (pgs_cons (pg_name (i := 13) sc_Blocks_alter.nd rfl (by first | exact Or.inl rfl | exact Or.inr rfl)) pgs_nil)))) (fun _ _ _ _ _ => pts_nil) (fun _ _ _ _ _ => (C8.pe_mt c_Blocks_has_buffer hr (by decide) (pv 0) (pa_cons (pv 1) (pa_cons (pv 7) pa_nil))))) pa_nil)))) (pss_one (ps_ret (C8.pe_c c_no hr (by decide) (by rfl) (pa_cons pe_str pa_nil)))) pss_nil)
    (pss_cons (ps_set (i := 3) sc_Blocks_alter.nd rfl (by first | exact Or.inl rfl | exact Or.inr rfl) (C8.pe_mt c_Blocks_types_in hr (by decide) (pv 0) (pa_cons (pv 1) pa_nil)))
    (pss_cons (ps_set (i := 4) sc_Blocks_alter.nd rfl (by first | exact Or.inl rfl | exact Or.inr rfl) pe_dnewK)
    (pss_cons (ps_set (i := 5) sc_Blocks_alter.nd rfl (by first | exact Or.inl rfl | exact Or.inr rfl) pe_dnewK)
    (pss_cons (ps_set (i := 6) sc_Blocks_alter.nd rfl (by first | exact Or.inl rfl | exact Or.inr rfl) (pe_lst pa_nil))
    (pss_cons (ps_for PassesOwn.never rfl (pi_tup (pv 2)) (pg_tupK K (n := 2) rfl rfl (pgs_cons (pg_name (i := 7) sc_Blocks_alter.nd rfl (by first | exact Or.inl rfl | exact Or.inr rfl)) (pgs_cons (pg_name (i := 8) sc_Blocks_alter.nd rfl (by first | exact Or.inl rfl | exact Or.inr rfl)) pgs_nil))) (pss_cons (ps_set (i := 9) sc_Blocks_alter.nd rfl (by first | exact Or.inl rfl | exact Or.inr rfl) (pe_callTy (call_dictF rfl) (by rfl) T.b_dict (by decide +kernel) (pa_cons (C8.pe_mt c_Types_owned hr (by decide) (pe_fldK K rfl (pv 0) rfl) (pa_cons (pe_dget hu (pv 3) (pv 7) (fun _ _ => rfl)) (pa_cons (pe_ix (show IxR _ (rIxT K) from ix_tup) (pe_dget hu (pe_fldK K rfl (pv 0) rfl) (pv 7) (fun _ _ => rfl)) pe_int (fun _ _ => rfl)) pa_nil))) pa_nil)))
    (pss_cons (ps_expr (pe_bm PySem.F.plainAttrs_dict PySem.F.slot_dict_update PySem.F.type_dict_update mt_dupd (pv 4) (pa_cons (pv 9) pa_nil)))
    (pss_cons (ps_set (i := 10) sc_Blocks_alter.nd rfl (by first | exact Or.inl rfl | exact Or.inr rfl) (C8.pe_mt c_Types_owned hr (by decide) (pe_fldK K rfl (pv 0) rfl) (pa_cons (pe_dget hu (pv 3) (pv 7) (fun _ _ => rfl)) (pa_cons (pv 8) pa_nil))))
    (pss_cons (ps_if (pt_cmpR op_isN (pv 10) pe_non (nomark _)) (pss_one (ps_ret (C8.pe_c c_no hr (by decide) (by rfl) (pa_cons pe_str pa_nil)))) pss_nil)
    (pss_cons (ps_if (pt_val (pe_callB (cr_any rfl) (by rfl) T.b_any (by decide +kernel) (pa_cons (pe_lc (own := [("child", 12), ("_", 13)]) rfl sc_Blocks_alter.nd (pi_tup (pv 10)) (blkOk_by (own := [("child", 12), ("_", 13)]) (N := n_Blocks_alter) (sc := defScope s_Blocks_alter) (by decide +kernel)) (fun _ _ _ _ _ => (pg_tupK K (n := 2) rfl rfl (pgs_cons (pg_name (i := 12) sc_Blocks_alter.nd rfl (by first | exact Or.inl rfl | exact Or.inr rfl)) (pgs_cons (pg_name (i := 13) sc_Blocks_alter.nd rfl (by first | exact Or.inl rfl | exact Or.inr rfl)) pgs_nil)))) (fun _ _ _ _ _ => pts_nil) (fun _ _ _ _ _ => (pe_cmp (pc_din hu (pv 12) (pv 5))))) pa_nil))) (pss_one (ps_ret (C8.pe_c c_no hr (by decide) (by rfl) (pa_cons pe_str pa_nil)))) pss_nil)
    (pss_cons (ps_expr (pe_bm PySem.F.plainAttrs_dict PySem.F.slot_dict_update PySem.F.type_dict_update mt_dupd (pv 5) (pa_cons (pe_callTy (call_dictF rfl) (by rfl) T.b_dict (by decide +kernel) (pa_cons (pv 10) pa_nil)) pa_nil)))
    (pss_one (ps_expr (pe_bm PySem.F.plainAttrs_list PySem.F.slot_list_extend PySem.F.type_list_extend mt_extend (pv 6) (pa_cons (pe_lc (own := [("child", 12), ("_", 13)]) rfl sc_Blocks_alter.nd (pi_tup (pv 10)) (blkOk_by (own := [("child", 12), ("_", 13)]) (N := n_Blocks_alter) (sc := defScope s_Blocks_alter) (by decide +kernel)) (fun _ _ _ _ _ => (pg_tupK K (n := 2) rfl rfl (pgs_cons (pg_name (i := 12) sc_Blocks_alter.nd rfl (by first | exact Or.inl rfl | exact Or.inr rfl)) (pgs_cons (pg_name (i := 13) sc_Blocks_alter.nd rfl (by first | exact Or.inl rfl | exact Or.inr rfl)) pgs_nil)))) (fun _ _ _ _ _ => pts_one (pt_cmp (pc_dnotin hu (pv 12) (pv 9)))) (fun _ _ _ _ _ => (pv 12))) pa_nil)))))))))))
    (pss_cons (ps_set (i := 11) sc_Blocks_alter.nd rfl (by first | exact Or.inl rfl | exact Or.inr rfl) (C8.pe_mt c_Blocks_alter_fault hr (by decide) (pv 0) (pa_cons (pv 1) (pa_cons (pv 2) (pa_cons (pv 4) (pa_cons (pv 5) (pa_cons (pv 6) pa_nil)))))))
    (pss_cons (ps_if (pt_cmpR op_ne (pv 11) pe_str (nomark _)) (pss_one (ps_ret (C8.pe_c c_no hr (by decide) (by rfl) (pa_cons (pv 11) pa_nil)))) pss_nil)
    (pss_cons (ps_for PassesOwn.never rfl (pi_tup (pv 2)) (pg_tupK K (n := 2) rfl rfl (pgs_cons (pg_name (i := 7) sc_Blocks_alter.nd rfl (by first | exact Or.inl rfl | exact Or.inr rfl)) (pgs_cons (pg_name (i := 8) sc_Blocks_alter.nd rfl (by first | exact Or.inl rfl | exact Or.inr rfl)) pgs_nil))) (pss_one (ps_dput hu (pe_fldK K rfl (pv 0) rfl) (pv 7) (pe_tup (pa_cons (pv 1) (pa_cons (pv 8) pa_nil))) rfl)))
    (pss_cons (ps_for PassesOwn.never rfl (pi_keysL (pv 5)) (pg_name (i := 12) sc_Blocks_alter.nd rfl (by first | exact Or.inl rfl | exact Or.inr rfl)) (pss_one (ps_if (pt_cmp (pc_dnotin hu (pv 12) (pv 4))) (pss_one (ps_expr (pe_dpop1 (pe_fldK K rfl (pv 0) rfl) (pv 12) ⟨rfl, rfl, rfl, rfl⟩))) pss_nil)))
    (pss_cons (ps_for PassesOwn.never rfl (pi_keysL (pv 4)) (pg_name (i := 12) sc_Blocks_alter.nd rfl (by first | exact Or.inl rfl | exact Or.inr rfl)) (pss_one (ps_if (pt_cmp (pc_dnotin hu (pv 12) (pv 5))) (pss_one (ps_expr (pe_dpop2 (pe_fldK K rfl (pv 0) rfl) (pv 12) pe_non ⟨rfl, rfl, rfl, rfl⟩))) pss_nil)))
    (pss_one (ps_ret (pe_tup (pa_cons pe_str (pa_cons pe_non pa_nil))))))))))))))))), ?_⟩
  obtain ⟨_, A, n, s, L, M, C, e, v, rows, rfl, B, I, he, hrw, hrl, hnd, hok, q⟩ := h
  have hn0 := B.disk.n0
  have hbas := I.bas
  have hs5 : 5000 ≤ sizeLine := by decide
  have hrw' := hrw
  obtain ⟨ts, ⟨ra, rfl, hra⟩, hts⟩ := hrw'
  have htl := hts.length
  have busy : ∀ (z : Str) (H3 : Hp), Go [] H H3 → sp_no K [.str z] H3 Q C8.E0 := fun z H3 g3 => ⟨rfl, z, rfl, fun p H' _ g => q _ _ (After.same B I (g3.trans g))⟩
  refine ⟨_, rfl, A.bl, _, _, rfl, B.ins, rfl, _, rfl, rfl, .ref A.bl, _, rows, rfl, hrw, hrl, hnd, fun r hr => (hok r hr).1, fun H1 g1 => ⟨true, rfl, ?_⟩⟩
  have B1 := B.go g1
  refine ⟨_, rfl, ra, rfl, ⟨_, g1.tup hra⟩, ?_⟩
  refine lc_go (Z := []) (fun i acc _ => acc = ((rows.take i).map fun r => hasB s e r.1).map V.bl) wk_tup (le_sl (by omega)) no_z (fun H' g => g.tup (g1.tup hra)) (fun _ _ => rfl) (fun _ _ _ _ _ _ h _ => h) ?_ ?_
  · intro i x acc H' hi hx hl g hR K1 K2 k1 k2
    obtain ⟨r, hr, u, ⟨t, rfl, ht⟩, hu⟩ := paired_at hts hx
    have e1 : rows.take (i + 1) = rows.take i ++ [r] := by rw [List.take_add_one, hr] <;> rfl
    have B' := B1.go g
    refine ⟨t, _, rfl, g.tup (g1.tup ht), rfl, _, _, rfl, _, _, rfl, rfl, rfl, _, rfl, A.bl, _, _, rfl, B'.ins, rfl, _, rfl, _, rfl, rfl, A, n, s, e, r.1, rfl, B', k1 _ _ Go.refl ?_⟩
    rw [hR, e1, List.map_append, List.map_append] <;> rfl
  intro lb acc H2 hlb g2 hacc hl2 hR
  rw [htl, List.take_length] at hR
  subst hR
  have g12 := g1.trans g2
  have B2 := B.go g12
  refine ⟨lb, _, rfl, .inl (.inl hacc), _, rfl, ?_⟩
  cases hall : (rows.map fun r => hasB s e r.1).all id with
  | false => exact busy _ _ g12
  | true =>
  have hbuf : ∀ r ∈ rows, ∃ w, s.buf r.1 = some (e, w) := fun r hr => by
    have h1 := List.all_eq_true.mp hall _ (List.mem_map.mpr ⟨r, hr, rfl⟩)
    have h1 : hasB s e r.1 = true := h1
    unfold hasB at h1
    cases hb : s.buf r.1 with
    | none => rw [hb] at h1; cases h1
    | some p =>
      rw [hb] at h1
      obtain ⟨f, w⟩ := p
      have : f = e := of_decide_eq_true h1
      exact ⟨w, by rw [this]⟩
  have hrM : ∀ r ∈ rows, ∃ o t, M e r.1 = some (o, some t) := fun r hr => by
    obtain ⟨w, hw⟩ := hbuf r hr
    exact (I.bufs r.1 e w hw).2
  refine ⟨_, rfl, A.bl, _, _, rfl, B2.ins, rfl, _, rfl, rfl, A, n, s, e, L, M, C, rfl, B2, I, he, fun kd kk H3 g3 hkd0 hkd hkm => ?_⟩
  have g13 := g12.trans g3
  refine fun ba hba0 => ?_
  have g4 : Go [] H3 (upd H3 ba (.dK [])) := Go.new hba0
  have h4b : upd H3 ba (.dK []) ba = some (.dK []) := upd_same
  have h4k := g4.at hkd
  have g14 := g13.trans g4
  generalize upd H3 ba (.dK []) = H4 at g4 h4b h4k g14 ⊢
  refine fun ha hha0 => ?_
  have nbh : ba ≠ ha := ne_of_none h4b hha0
  have nkh : kd ≠ ha := ne_of_none h4k hha0
  have nkb : kd ≠ ba := ne_of_none hkd hba0
  have g5 : Go [] H4 (upd H4 ha (.dK [])) := Go.new hha0
  have h5h : upd H4 ha (.dK []) ha = some (.dK []) := upd_same
  have h5b := g5.at h4b
  have h5k := g5.at h4k
  have g15 := g14.trans g5
  generalize upd H4 ha (.dK []) = H5 at g5 h5h h5b h5k g15 ⊢
  refine ⟨(by decide : 0 ≤ sizeLine), fun ca hca0 => ?_⟩
  have g6 : Go [] H5 (upd H5 ca (.lst [])) := Go.new hca0
  have h6c : upd H5 ca (.lst []) ca = some (.lst []) := upd_same
  have h6h := g6.at h5h
  have h6b := g6.at h5b
  have h6k := g6.at h5k
  have g16 := g15.trans g6
  have hba : H ba = none := g13.free hba0
  have hha : H ha = none := g14.free hha0
  have hca : H ca = none := g15.free hca0
  have hkd00 : H kd = none := g12.free hkd0
  generalize upd H5 ca (.lst []) = H6 at g6 h6c h6h h6b h6k g16 ⊢
  clear g5 h5h h5b h5k g4 h4b h4k
  have ncb : ca ≠ ba := ne_of h6c h6b (by simp)
  have nch : ca ≠ ha := ne_of h6c h6h (by simp)
  have nck : ca ≠ kd := ne_of h6c h6k (by simp)
  have rngM : ∀ c p k, M e c = some (some p, k) → 4 ≤ c ∧ c < n := fun c p k h => by
    rcases (I.mf e he).rng h with ⟨_, z⟩ | ⟨z1, z2, _⟩
    · cases z
    · exact ⟨z1, z2⟩
  have rbf : ∀ {H' i bf bh ns}, AP K (M e) n rows H' ba ha ca i bf bh ns → ∀ c k, bf c = some k → 4 ≤ c ∧ c < n := fun a c k h => by
    obtain ⟨p, w, _, z⟩ := (a.bfI c k).mp h
    exact rngM _ _ _ z
  have rbh : ∀ {H' i bf bh ns}, AP K (M e) n rows H' ba ha ca i bf bh ns → ∀ c (x : Int × Int), bh c = some x → 4 ≤ c ∧ c < n := fun a c x h => by
    obtain ⟨p, k⟩ := x
    obtain ⟨w, _, o, t, cs, _, z2, z3⟩ := (a.bhI c p k).mp h
    have := (own_fnd z2).2 _ z3
    exact ⟨this.1, this.2.1⟩
  refine ⟨_, rfl, ra, rfl, ⟨_, g16.tup hra⟩, ?_⟩
  refine for_it wk_tup (fun i σ H' => ∃ x7 x8 x9 x10 x11 x12 x13 bf bh ns, σ = [some (.ref A.bl), some (.int e), some (.ref ra), some (.ref kd), some (.ref ba), some (.ref ha), some (.ref ca), x7, x8, x9, x10, x11, x12, x13] ∧ Go [] H H' ∧ H' kd = some (.dK kk) ∧ AP K (M e) n rows H' ba ha ca i bf bh ns)
    ⟨_, _, _, _, _, _, _, fun _ => none, fun _ => none, [], rfl, g16, h6k, ⟨⟨[], h6b, MapR.nil⟩, ⟨[], h6h, MapR.nil.congr fun _ => rfl⟩, h6c, Nat.zero_le _, fun c k => ⟨fun h => (by cases h), fun ⟨p, w, h, _⟩ => (by cases h)⟩, fun c p k => ⟨fun h => (by cases h), fun ⟨w, h, _⟩ => (by cases h)⟩, fun c p k h => (by cases h), fun c h => (by cases h), fun p w h => (by cases h)⟩⟩ (fun i σ H' _ p => by obtain ⟨_, _, _, _, _, _, _, _, _, _, _, g, _⟩ := p; exact g.tup hra) ?_ ?_
  · rintro i x σ H0 H7 hi ⟨x7, x8, x9, x10, x11, x12, x13, bf, bh, ns, rfl, g7, hk7, ap⟩ ⟨rfl, hx⟩
    obtain ⟨⟨p, w⟩, hr, u, ⟨t, rfl, ht⟩, hu⟩ := paired_at hts hx
    have hrin := List.mem_of_getElem? hr
    obtain ⟨o, t0, hM⟩ := hrM _ hrin
    have hM : M e p = some (o, some t0) := hM
    obtain ⟨wb, hwb⟩ := hbuf _ hrin
    have hwb : s.buf p = some (e, wb) := hwb
    have hGK := I.mkind he hM
    have hi2 : i ≤ 2 := by
      have h2 : i < rows.length := by rw [← htl]; exact hi
      omega
    obtain ⟨cs0, hcs0, hcs0m⟩ := (I.mf e he).kids p o (some t0) hM
    have hcs0 : own n gdF t0 (memW s p) = some cs0 := hcs0
    have hcs0m : ∀ c k, (c, k) ∈ cs0 ↔ M e c = some (some p, some k) := hcs0m
    rw [memW_some hwb] at hcs0
    have B7 := B.go g7
    obtain ⟨ms0, ty7⟩ := B7.types
    obtain ⟨kbu, b1, b2⟩ := B7.bufD
    obtain ⟨vb, hvb, ub, ⟨tb, rfl, htb⟩, hub⟩ := b2.gets hwb
    have dgb := DGet.k (k := Sum.inl p) b1
    rw [hvb] at dgb
    obtain ⟨vk, hvk, hvk2⟩ := hkm.gets (b := p) (x := some t0) (by rw [hM] <;> rfl)
    have hvk2 : vk = .int t0 := hvk2
    subst hvk2
    have dgk := DGet.k (k := Sum.inl p) hk7
    rw [hvk] at dgk
    have hbr := hbas.buf p e wb hwb
    refine ⟨t, _, rfl, g7.tup ht, rfl, _, _, rfl, _, _, rfl, rfl, ?_⟩
    refine ⟨_, rfl, _, _, _, _, _, rfl, B7.ins, T.k_Blocks, T.na_Blocks_types, rfl, A.ty, _, _, rfl, ty7.ins, rfl, _, rfl, _, rfl, kd, _, rfl, dgk, _, rfl, _, _, _, _, _, rfl, B7.ins, T.k_Blocks, T.na_Blocks_buffers, rfl, _, rfl, A.bu, _, rfl, dgb, tb, _, 1, _, rfl, rfl, htb, rfl, ?_⟩
    refine ⟨rfl, A.ty, A.dxt, A.kn, A.mks, n, ms0, t0, ub, wb, rfl, ty7, hGK, hub, hbr.2.2.2.1, hn0.2, fun H8 v8 g8 hr8 => ?_⟩
    rw [hcs0] at hr8
    obtain ⟨a8, o8, ps8, rfl, h81, h82, h83⟩ := hr8
    have hnd0 := (own_fnd hcs0).1
    refine ⟨a8, o8, ps8, csK cs0, rfl, h81, h82, cs_pairs h83, fun pr hpr => ?_⟩
    have g9 : Go [] H8 (upd H8 pr (.dK (mergeK [] (csK cs0)))) := Go.new hpr
    have h9p : upd H8 pr (.dK (mergeK [] (csK cs0))) pr = some (.dK (mergeK [] (csK cs0))) := upd_same
    have m9 := lk_dict hnd0
    have g79 := g8.trans g9
    obtain ⟨kb, hb1, hb2⟩ := ap.b
    obtain ⟨kh, hh1, hh2⟩ := ap.h
    have hc1 := ap.c
    have npb : ba ≠ pr := ne_of_none (g8.at hb1) hpr
    have nph : pr ≠ ha := (ne_of_none (g8.at hh1) hpr).symm
    generalize upd H8 pr (.dK (mergeK [] (csK cs0))) = H9 at g9 h9p g79 ⊢
    generalize mergeK [] (csK cs0) = kpr at h9p m9
    have hbl : kb.length ≤ 64 := hb2.len (n := 64) fun c k h => by
      have := rbf ap c k h
      omega
    have hpl : kpr.length ≤ 64 := m9.len (n := 64) fun c k h => by
      have := rngM _ _ _ ((hcs0m c k).mp ((lk_iff hnd0).mp h))
      omega
    have hhl : kh.length ≤ 64 := hh2.len (n := 64) fun c k h => by
      cases hh : bh c with
      | none => rw [hh] at h; cases h
      | some y =>
        have := rbh ap c y hh
        omega
    refine ⟨_, rfl, .inr (.inr (.inl ⟨rfl, .inl ⟨_, g79.at hb1⟩⟩)), _, rfl, ba, pr, kb, kpr, rfl, rfl, npb, g79.at hb1, h9p, by omega, ?_⟩
    have gA : Go [ba] H9 (upd H9 ba (.dK (mergeK kb kpr))) := Go.put List.mem_cons_self (by rw [g79.at hb1]; trivial)
    have g10 : Go [] H (upd H9 ba (.dK (mergeK kb kpr))) := (g7.trans g79).late hba
    have h10b : upd H9 ba (.dK (mergeK kb kpr)) ba = some (.dK (mergeK kb kpr)) := upd_same
    have m10 : MapR (mergeK kb kpr) (bfN cs0 bf) IntV := (hb2.merge m9).congr fun b => by
      unfold bfN
      cases lk cs0 b <;> rfl
    have h10p : upd H9 ba (.dK (mergeK kb kpr)) pr = some (.dK kpr) := by rw [upd_ne npb.symm]; exact h9p
    have h10h : upd H9 ba (.dK (mergeK kb kpr)) ha = some (.dK kh) := by rw [upd_ne nbh.symm]; exact g79.at hh1
    have h10c : upd H9 ba (.dK (mergeK kb kpr)) ca = some (.lst (ns.map V.int)) := by rw [upd_ne ncb]; exact g79.at hc1
    have h10k : upd H9 ba (.dK (mergeK kb kpr)) kd = some (.dK kk) := by rw [upd_ne nkb]; exact g79.at hk7
    generalize upd H9 ba (.dK (mergeK kb kpr)) = H10 at gA g10 h10b h10p h10h h10c h10k ⊢
    generalize mergeK kb kpr = kb' at h10b m10
    have B10 := B.go g10
    obtain ⟨ms1, ty10⟩ := B10.types
    have dgk2 := DGet.k (k := Sum.inl p) h10k
    rw [hvk] at dgk2
    have hu10 : WdV K H10 u w := hu.go g10
    refine ⟨_, rfl, _, _, _, _, _, rfl, B10.ins, T.k_Blocks, T.na_Blocks_types, rfl, A.ty, _, _, rfl, ty10.ins, rfl, _, rfl, _, rfl, kd, _, rfl, dgk2, _, rfl, ?_⟩
    refine ⟨rfl, A.ty, A.dxt, A.kn, A.mks, n, ms1, t0, u, w, rfl, ty10, hGK, hu10, (hok _ hrin).1.1, hn0.2, fun H11 v11 g11 hr11 => ?_⟩
    have gg11 := g10.trans g11
    cases hown : own n gdF t0 w with
    | none =>
      rw [hown] at hr11
      have e11 : v11 = .non := hr11
      subst e11
      exact ⟨_, rfl, rfl, true, rfl, busy _ _ gg11⟩
    | some cs1 =>
    rw [hown] at hr11
    obtain ⟨a11, o11, ps11, rfl, h111, h112, h113⟩ := hr11
    have hnd1 := (own_fnd hown).1
    have hcl1 := Fnd.len (own_fnd hown) hn0.2
    have hpsl := h113.length
    refine ⟨_, rfl, rfl, false, congrArg V.bl (decide_eq_false (by simp)), ?_⟩
    have hsq11 : SqT K H11 a11 (ps11.map V.ref) := .inl (.inr ⟨o11, h111⟩)
    refine ⟨_, rfl, a11, rfl, ⟨_, hsq11⟩, ?_⟩
    have at11 : ∀ {j : Nat} {x : V}, (ps11.map V.ref)[j]? = some x → ∃ q c, x = .ref q ∧ cs1[j]? = some c ∧ SqT K H11 q [.int c.1, .int c.2] := fun {j x} hx => by
      rw [List.getElem?_map] at hx
      cases hpi : ps11[j]? with
      | none => rw [hpi] at hx; cases hx
      | some p' =>
        rw [hpi] at hx
        cases hx
        obtain ⟨c, hc, hpc⟩ := paired_at h113 hpi
        exact ⟨p', c, rfl, hc, hpc⟩
    refine lc_go (Z := []) (fun j acc _ => acc = ((cs1.take j).map fun c => (bh c.1).isSome).map V.bl) wk_tup (le_sl (by rw [List.length_map]; omega)) no_z (fun H' g => g.tup hsq11) (fun _ _ => rfl) (fun _ _ _ _ _ _ h _ => h) ?_ ?_
    · intro j x acc H' hj hx hl g hR K1 K2 k1 k2
      obtain ⟨q', c, rfl, hc, hq'⟩ := at11 hx
      have e1 : cs1.take (j + 1) = cs1.take j ++ [c] := by rw [List.take_add_one, hc] <;> rfl
      refine ⟨q', _, rfl, g.tup hq', rfl, _, _, rfl, _, _, rfl, rfl, rfl, _, rfl, _, rfl, ha, _, rfl, DGet.k (k := Sum.inl c.1) ((g11.trans g).at h10h), k1 _ _ Go.refl ?_⟩
      rw [hR, e1, List.map_append, List.map_append, hh2.isSome]
      cases hz : bh c.1 <;> simp [hz]
    intro L12 acc12 H12 hL12 g12' hacc12 hl12 hR12
    rw [List.length_map, hpsl, List.take_length] at hR12
    subst hR12
    have gg12 := gg11.trans g12'
    have g10_12 := g11.trans g12'
    refine ⟨L12, _, rfl, .inl (.inl hacc12), _, rfl, ?_⟩
    cases hany : (cs1.map fun c => (bh c.1).isSome).any id with
    | true => exact busy _ _ gg12
    | false =>
    have htw : ∀ c ∈ cs1, bh c.1 = none := fun c hc => by
      have h1 := List.any_eq_false.mp hany _ (List.mem_map.mpr ⟨c, hc, rfl⟩)
      cases hb : bh c.1 with
      | none => rfl
      | some y =>
        rw [hb] at h1
        exact absurd rfl h1
    have h12h := g10_12.at h10h
    refine ⟨_, rfl, .inr (.inr (.inl ⟨rfl, .inl ⟨_, h12h⟩⟩)), _, rfl, a11, o11, ps11, csK cs1, rfl, g12'.fk _ _ _ h111, h112, cs_pairs (Paired.mapP h113 fun _ _ z => g12'.tup z), fun pd hpd => ?_⟩
    have npd : ha ≠ pd := ne_of_none h12h hpd
    have g13 : Go [] H12 (upd H12 pd (.dK (mergeK [] (csK cs1)))) := Go.new hpd
    have h13p : upd H12 pd (.dK (mergeK [] (csK cs1))) pd = some (.dK (mergeK [] (csK cs1))) := upd_same
    have m13 := lk_dict hnd1
    have g10_13 := g10_12.trans g13
    generalize upd H12 pd (.dK (mergeK [] (csK cs1))) = H13 at g13 h13p g10_13 ⊢
    generalize mergeK [] (csK cs1) = kpd at h13p m13
    have hpdl : kpd.length ≤ 64 := m13.len (n := 64) fun c k h => by
      have := (own_fnd hown).2 _ ((lk_iff hnd1).mp h)
      have h4 : (4 : Int) ≤ c := this.1
      have h5 : c < n := this.2.1
      omega
    have h13h := g10_13.at h10h
    refine ⟨ha, pd, kh, kpd, rfl, rfl, npd, h13h, h13p, by omega, ?_⟩
    have gB : Go [ha] H13 (upd H13 ha (.dK (mergeK kh kpd))) := Go.put List.mem_cons_self (by rw [h13h]; trivial)
    have g14 : Go [] H (upd H13 ha (.dK (mergeK kh kpd))) := (g10.trans g10_13).late hha
    have h14h : upd H13 ha (.dK (mergeK kh kpd)) ha = some (.dK (mergeK kh kpd)) := upd_same
    have m14 : MapR (mergeK kh kpd) (fun c => (bhN cs1 p bh c).map Prod.snd) IntV := (hh2.merge m13).congr fun b => by
      unfold bhN
      cases lk cs1 b <;> rfl
    have h14b : upd H13 ha (.dK (mergeK kh kpd)) ba = some (.dK kb') := by rw [upd_ne nbh]; exact g10_13.at h10b
    have h14c : upd H13 ha (.dK (mergeK kh kpd)) ca = some (.lst (ns.map V.int)) := by rw [upd_ne nch]; exact g10_13.at h10c
    have h14k : upd H13 ha (.dK (mergeK kh kpd)) kd = some (.dK kk) := by rw [upd_ne nkh]; exact g10_13.at h10k
    have h14p : upd H13 ha (.dK (mergeK kh kpd)) pr = some (.dK kpr) := by rw [upd_ne nph]; exact g10_13.at h10p
    have hsq14 : SqT K (upd H13 ha (.dK (mergeK kh kpd))) a11 (ps11.map V.ref) := gB.tup (g13.tup (g12'.tup hsq11))
    have at14 : ∀ {j : Nat} {x : V}, (ps11.map V.ref)[j]? = some x → ∃ q c, x = .ref q ∧ cs1[j]? = some c ∧ SqT K (upd H13 ha (.dK (mergeK kh kpd))) q [.int c.1, .int c.2] := fun {j x} hx => by
      obtain ⟨q', c, z1, z2, z3⟩ := at11 hx
      exact ⟨q', c, z1, z2, gB.tup (g13.tup (g12'.tup z3))⟩
    generalize upd H13 ha (.dK (mergeK kh kpd)) = H14 at gB g14 h14h h14b h14c h14k h14p hsq14 at14 ⊢
    generalize mergeK kh kpd = kh' at h14h m14
    refine ⟨_, rfl, .inl ⟨rfl, _, .inl (.inl h14c)⟩, _, rfl, a11, rfl, ⟨_, hsq14⟩, ?_⟩
    refine lc_go (Z := []) (fun j acc _ => ∃ ms : List Int, acc = ms.map V.int ∧ ms.length ≤ j ∧ ∀ c, c ∈ ms ↔ ∃ k, (c, k) ∈ cs1.take j ∧ lk cs0 c = none) wk_tup (le_sl (by rw [List.length_map]; omega)) no_z (fun H' g => g.tup hsq14) (fun _ _ => ⟨[], rfl, Nat.zero_le _, fun c => by simp⟩) (fun _ _ _ _ _ _ h _ => h) ?_ ?_
    · rintro j x acc H' hj hx hl g ⟨ms, rfl, hml, hmm⟩ K1 K2 k1 k2
      obtain ⟨q', c, rfl, hc, hq'⟩ := at14 hx
      have e1 : cs1.take (j + 1) = cs1.take j ++ [c] := by rw [List.take_add_one, hc] <;> rfl
      refine ⟨q', _, rfl, g.tup hq', rfl, _, _, rfl, _, _, rfl, rfl, rfl, _, rfl, _, rfl, pr, _, rfl, DGet.k (k := Sum.inl c.1) (g.at h14p), _, rfl, ?_⟩
      rw [m9.isSome]
      cases hl0 : lk cs0 c.1 with
      | none =>
        refine ⟨_, rfl, k1 _ _ Go.refl ⟨ms ++ [c.1], by rw [List.map_append] <;> rfl, by rw [List.length_append]; simp; omega, fun c' => ?_⟩⟩
        rw [e1]
        simp only [List.mem_append, List.mem_singleton, hmm]
        constructor
        · rintro (⟨k, z1, z2⟩ | rfl)
          · exact ⟨k, .inl z1, z2⟩
          · exact ⟨c.2, .inr rfl, hl0⟩
        · rintro ⟨k, z1 | z1, z2⟩
          · exact .inl ⟨k, z1, z2⟩
          · exact .inr (by rw [← z1])
      | some y =>
        refine k2 _ Go.refl ⟨ms, rfl, by omega, fun c' => ?_⟩
        rw [e1]
        simp only [List.mem_append, List.mem_singleton, hmm]
        constructor
        · rintro ⟨k, z1, z2⟩
          exact ⟨k, .inl z1, z2⟩
        · rintro ⟨k, z1 | z1, z2⟩
          · exact ⟨k, z1, z2⟩
          · rw [← z1] at hl0
            rw [hl0] at z2
            cases z2
    · rintro D acc H15 hD g15' hacc hl ⟨ms, rfl, hml, hmm⟩
      rw [List.length_map, hpsl] at hml
      rw [List.length_map, hpsl, List.take_length] at hmm
      have hc15 := g15'.at h14c
      have hcl := ap.cl
      refine ⟨ca, D, ns.map V.int, ms.map V.int, rfl, rfl, hc15, hacc, by rw [List.length_map, List.length_map]; omega, ?_⟩
      have gC : Go [ca] H15 (upd H15 ca (.lst (ns.map V.int ++ ms.map V.int))) := Go.put List.mem_cons_self (by rw [hc15]; trivial)
      refine ⟨_, _, _, _, _, _, _, bfN cs0 bf, bhN cs1 p bh, ns ++ ms, rfl, (g14.trans g15').late hca, by rw [upd_ne nck.symm]; exact g15'.at h14k, ap.step hr hM hnd0 hcs0m hown htw hmm (by omega) ⟨kb', by rw [upd_ne ncb.symm]; exact g15'.at h14b, m10⟩ ⟨kh', by rw [upd_ne nch.symm]; exact g15'.at h14h, m14⟩ ?_⟩
      rw [upd_same, List.map_append]
  · rintro σ H7 ⟨x7, x8, x9, x10, x11, x12, x13, bf, bh, ns, rfl, g7, hk7, ap⟩
    rw [htl] at ap
    have etk : rows.take rows.length = rows := List.take_length
    have bfI : ∀ c k, bf c = some k ↔ ∃ p w, (p, w) ∈ rows ∧ M e c = some (some p, some k) := fun c k => by have := ap.bfI c k; rw [etk] at this; exact this
    have bhI : ∀ c p k, bh c = some (p, k) ↔ ∃ w, (p, w) ∈ rows ∧ ∃ o t cs, M e p = some (o, some t) ∧ own n gdF t w = some cs ∧ (c, k) ∈ cs := fun c p k => by have := ap.bhI c p k; rw [etk] at this; exact this
    have ow : ∀ p w, (p, w) ∈ rows → ∀ o t, M e p = some (o, some t) → ∃ cs, own n gdF t w = some cs := fun p w h => ap.ow p w (by rw [etk]; exact h)
    obtain ⟨kb, hb1, hb2⟩ := ap.b
    obtain ⟨kh, hh1, hh2⟩ := ap.h
    have B7 := B.go g7
    have nhA : ha ∉ A.all := B.newA hha
    have nbA : ba ∉ A.all := B.newA hba
    refine ⟨_, rfl, A.bl, _, _, rfl, B7.ins, rfl, _, rfl, _, rfl, _, rfl, _, rfl, _, rfl, rfl, A, n, s, L, M, C, e, .ref ra, rows, ba, ha, ca, kb, kh, bf, bh, ns, rfl, B7, I, he, hrw.go g7, hrl.2, fun r hr => ?_, hb1, hb2, hh1, hh2, ap.c, nbh, ap.cs2, rbf ap, rbh ap, nhA, fun z H8 g8 hz => ?_⟩
    · obtain ⟨o, t, h⟩ := hrM r hr
      exact ⟨_, h⟩
    have g78 := g7.trans g8
    refine ⟨_, rfl, rfl, _, rfl, ?_⟩
    have ez : (!decide (V.str z = V.str "")) = !decide (z = "") := by simp
    rw [ez]
    by_cases hz0 : z = ""
    · rw [decide_eq_true hz0]
      have F := hz hz0
      have hb8 := g8.at hb1
      have hh8 := g8.at hh1
      have B8 := B7.go g8
      have ap_cs1 := ap.cs1
      clear ap hz ez
      refine iteF ?_
      refine next_i ?_
      dsimp only
      refine ⟨_, rfl, ra, rfl, ⟨_, g78.tup hra⟩, ?_⟩
      refine for_it wk_tup (fun i σ H' => ∃ x7 x8 x9 x10 x11 x12 x13 b1, σ = [some (.ref A.bl), some (.int e), some (.ref ra), some (.ref kd), some (.ref ba), some (.ref ha), some (.ref ca), x7, x8, x9, x10, x11, x12, x13] ∧ Go A.mut H H' ∧ H' ba = some (.dK kb) ∧ H' ha = some (.dK kh) ∧ BlkAt K A H' n { s with buf := b1 } ∧
        (∀ p w, (p, w) ∈ rows.take i → b1 p = some (e, w)) ∧ (∀ x, (∀ p w, (p, w) ∈ rows.take i → p ≠ x) → b1 x = s.buf x) ∧ ∀ x y, b1 x = some y → ∃ y', s.buf x = some y')
        ⟨_, _, _, _, _, _, _, s.buf, rfl, g78.lift, hb8, hh8, B8, fun p w h => (by cases h), fun x _ => rfl, fun x y h => ⟨y, h⟩⟩ (fun i σ H' _ p => by obtain ⟨_, _, _, _, _, _, _, _, _, g, _⟩ := p; exact g.tup hra) ?_ ?_
      · rintro i x σ H0 H9 hi ⟨x7, x8, x9, x10, x11, x12, x13, b1, rfl, g9, hb9, hh9, B9, hr1, hr2, hr3⟩ ⟨rfl, hx⟩
        obtain ⟨⟨p, w⟩, hr, u, ⟨t, rfl, ht⟩, hu⟩ := paired_at hts hx
        have e1 : rows.take (i + 1) = rows.take i ++ [(p, w)] := by rw [List.take_add_one, hr] <;> rfl
        refine ⟨t, _, rfl, g9.tup ht, rfl, _, _, rfl, _, _, rfl, rfl, ?_⟩
        refine ⟨_, rfl, _, rfl, (by decide : 2 ≤ sizeLine), fun t5 h5 => ?_⟩
        have g10 : Go [] H9 (upd H9 t5 (.tup [.int e, u])) := Go.new h5
        have h10 : SqT K (upd H9 t5 (.tup [.int e, u])) t5 [.int e, u] := .inl (.inl upd_same)
        have B10 := B9.go g10
        have hb10 := g10.at hb9
        have hh10 := g10.at hh9
        have hu10 : WdV K (upd H9 t5 (.tup [.int e, u])) u w := (hu.go g9).go g10
        generalize upd H9 t5 (.tup [.int e, u]) = H10 at g10 h10 B10 hb10 hh10 hu10 ⊢
        obtain ⟨kbu, k1, k2⟩ := B10.bufD
        have hkl : kbu.length ≤ 64 := k2.len (n := 64) fun x y h => by
          obtain ⟨y', h'⟩ := hr3 x y h
          have := (hbas.buf x y'.1 y'.2 h').2
          omega
        refine ⟨_, rfl, _, _, _, _, _, rfl, B10.ins, T.k_Blocks, T.na_Blocks_buffers, rfl, _, rfl, A.bu, _, rfl, DPut.k (k := Sum.inl p) k1 (lt_sl (by omega)), ?_⟩
        obtain ⟨g11, B11⟩ := B10.setBu (k2.put (b := p) (x := (e, w)) (v := .ref t5) ⟨u, ⟨t5, rfl, h10⟩, hu10⟩)
        have nb : ba ≠ A.bu := fun z => nbA (by rw [z]; simp [Ad.all])
        have nh : ha ≠ A.bu := fun z => nhA (by rw [z]; simp [Ad.all])
        have hrp : ∀ p' w', (p', w') ∈ rows.take i → p' ≠ p := fun p' w' h z => by
          have h2 : ((rows.take (i + 1)).map Prod.fst).Nodup := by
            rw [List.map_take]
            exact hnd.sublist (List.take_sublist _ _)
          rw [e1, List.map_append] at h2
          exact (List.nodup_append.mp h2).2.2 p' (List.mem_map.mpr ⟨_, h, rfl⟩) p (by simp) z
        refine ⟨_, _, _, _, _, _, _, setO b1 p (some (e, w)), rfl, g9.trans (g10.lift.trans (g11.mono mut_bu)), by rw [upd_ne nb]; exact hb10, by rw [upd_ne nh]; exact hh10, B11, fun p' w' h => ?_, fun x h => ?_, fun x y h => ?_⟩
        · rw [e1] at h
          rcases List.mem_append.mp h with z | z
          · rw [setO_ne (hrp p' w' z)]
            exact hr1 p' w' z
          · injection List.mem_singleton.mp z with z1 z2
            rw [z1, z2, setO_same]
        · rw [e1] at h
          have hxp : x ≠ p := fun z => h p w (List.mem_append_right _ List.mem_cons_self) z.symm
          rw [setO_ne hxp]
          exact hr2 x fun p' w' z => h p' w' (List.mem_append_left _ z)
        · by_cases hxp : x = p
          · obtain ⟨w', hw'⟩ := hbuf _ (List.mem_of_getElem? hr)
            rw [hxp]
            exact ⟨_, hw'⟩
          · rw [setO_ne hxp] at h
            exact hr3 x y h
      · rintro σ H9 ⟨x7, x8, x9, x10, x11, x12, x13, b1, rfl, g9, hb9, hh9, B9, hr1, hr2, hr3⟩
        rw [htl, etk] at hr1 hr2
        refine ⟨_, rfl, ha, kh, rfl, hh9, fun od => ?_⟩
        have gl : Go [ha] H9 (upd H9 ha (.frz od (.dK kh))) := Go.lock0 hh9 trivial
        have g10 : Go A.mut H (upd H9 ha (.frz od (.dK kh))) := g9.late hha
        have hh10 : upd H9 ha (.frz od (.dK kh)) ha = some (.frz od (.dK kh)) := upd_same
        have hb10 : upd H9 ha (.frz od (.dK kh)) ba = some (.dK kb) := by rw [upd_ne nbh]; exact hb9
        have B10 := B9.goM gl nhA
        generalize upd H9 ha (.frz od (.dK kh)) = H10 at gl g10 hh10 hb10 B10 ⊢
        have htk : ∀ c p k, bh c = some (p, k) → bf c = none → s.kept c = some (e, some k) := fun c p k h1 h2 => by
          refine fill_kept (F.tk c (ap_cs1 c p k h1 fun k' h3 => ?_) h2 (p, k) h1)
          obtain ⟨w, hw, _⟩ := (bhI c p k).mp h1
          rw [(bfI c k').mpr ⟨p, w, hw, h3⟩] at h2
          cases h2
        refine for_it wk_keys (fun j σ H' => ∃ x7 x8 x9 x10 x11 x12 x13 k1, σ = [some (.ref A.bl), some (.int e), some (.ref ra), some (.ref kd), some (.ref ba), some (.ref ha), some (.ref ca), x7, x8, x9, x10, x11, x12, x13] ∧ Go A.mut H H' ∧ H' ba = some (.dK kb) ∧ H' ha = some (.frz od (.dK kh)) ∧ BlkAt K A H' n { s with buf := b1, kept := k1 } ∧
          (∀ x : Int, (Sum.inl x : Key) ∈ (kh.take j).map (fun p : Key × V => p.1) → bf x = none → k1 x = none) ∧ ∀ x : Int, ((Sum.inl x : Key) ∈ (kh.take j).map (fun p : Key × V => p.1) → bf x ≠ none) → k1 x = s.kept x)
          ⟨_, _, _, _, _, _, _, s.kept, rfl, g10, hb10, hh10, B10, fun x h => (by cases h), fun x _ => rfl⟩ (fun i σ H' _ p => by obtain ⟨_, _, _, _, _, _, _, _, _, _, _, h, _⟩ := p; exact h) ?_ ?_
        · rintro j x σ H0 H11 hj ⟨x7, x8, x9, x10, x11, x12, x13, k1, rfl, g11, hb11, hh11, B11, hk1, hk2⟩ ⟨rfl, k, v, hkv, rfl⟩
          obtain ⟨c, kk', rfl, hc, _⟩ := hh2.at hkv
          obtain ⟨hnt, htk'⟩ := nd_take hh2.nd hkv
          obtain ⟨p, k', hbc⟩ : ∃ p k', bh c = some (p, k') := by
            cases z : bh c with
            | none => rw [z] at hc; cases hc
            | some y => exact ⟨y.1, y.2, rfl⟩
          have nbk : ba ≠ A.ke := fun z => nbA (by rw [z]; simp [Ad.all])
          have nhk : ha ≠ A.ke := fun z => nhA (by rw [z]; simp [Ad.all])
          refine ⟨_, rfl, _, rfl, ba, _, rfl, DGet.k (k := Sum.inl c) hb11, _, rfl, ?_⟩
          rw [hb2.isSome]
          cases hbf : bf c with
          | some y =>
            refine ⟨_, _, _, _, _, _, _, k1, rfl, g11, hb11, hh11, B11, fun x hx hxn => ?_, fun x hx => ?_⟩
            · rw [htk'] at hx
              rcases List.mem_append.mp hx with z | z
              · exact hk1 x z hxn
              · rw [Sum.inl.inj (List.mem_singleton.mp z), hbf] at hxn
                cases hxn
            · exact hk2 x fun z => hx (by rw [htk']; exact List.mem_append_left _ z)
          | none =>
            have hkc : k1 c = some (e, some k') := by
              rw [hk2 c fun z => absurd z hnt]
              exact htk c p k' hbc hbf
            obtain ⟨kke, e1, e2⟩ := B11.keptD
            obtain ⟨v0, hv0, _⟩ := e2.gets hkc
            refine ⟨_, rfl, _, _, _, _, _, rfl, B11.ins, T.k_Blocks, T.na_Blocks_kept, rfl, A.ke, rfl, .inl ⟨_, .inl e1⟩, _, rfl, kke, Sum.inl c, v0, e1, rfl, hv0, ?_⟩
            obtain ⟨g12, B12⟩ := B11.setKe (e2.drop (b := c))
            refine ⟨_, _, _, _, _, _, _, setO k1 c none, rfl, g11.trans (g12.mono mut_ke), by rw [upd_ne nbk]; exact hb11, by rw [upd_ne nhk]; exact hh11, B12, fun x hx hxn => ?_, fun x hx => ?_⟩
            · by_cases hxc : x = c
              · rw [hxc, setO_same]
              · rw [setO_ne hxc]
                rw [htk'] at hx
                rcases List.mem_append.mp hx with z | z
                · exact hk1 x z hxn
                · exact absurd (Sum.inl.inj (List.mem_singleton.mp z)) hxc
            · have hxc : x ≠ c := fun z => by
                have := hx (by rw [htk', z]; exact List.mem_append_right _ (List.mem_singleton.mpr rfl))
                rw [z] at this
                exact this hbf
              rw [setO_ne hxc]
              exact hk2 x fun z => hx (by rw [htk']; exact List.mem_append_left _ z)
        · rintro σ H11 ⟨x7, x8, x9, x10, x11, x12, x13, k1, rfl, g11, hb11, hh11, B11, hk1, hk2⟩
          rw [List.take_length] at hk1 hk2
          have inh : ∀ x : Int, (Sum.inl x : Key) ∈ kh.map (fun p : Key × V => p.1) ↔ bh x ≠ none := fun x => by
            rw [(DomIs.of hh2).mem]
            cases bh x <;> simp
          have inb : ∀ x : Int, (Sum.inl x : Key) ∈ kb.map (fun p : Key × V => p.1) ↔ bf x ≠ none := fun x => by
            rw [(DomIs.of hb2).mem]
            cases bf x <;> simp
          refine ⟨_, rfl, ba, kb, rfl, hb11, fun od2 => ?_⟩
          have gl2 : Go [ba] H11 (upd H11 ba (.frz od2 (.dK kb))) := Go.lock0 hb11 trivial
          have g12 : Go A.mut H (upd H11 ba (.frz od2 (.dK kb))) := g11.late hba
          have hb12 : upd H11 ba (.frz od2 (.dK kb)) ba = some (.frz od2 (.dK kb)) := upd_same
          have hh12 : upd H11 ba (.frz od2 (.dK kb)) ha = some (.frz od (.dK kh)) := by rw [upd_ne nbh.symm]; exact hh11
          have B12 := B11.goM gl2 nbA
          generalize upd H11 ba (.frz od2 (.dK kb)) = H12 at gl2 g12 hb12 hh12 B12 ⊢
          refine for_it wk_keys (fun j σ H' => ∃ x7 x8 x9 x10 x11 x12 x13 b2, σ = [some (.ref A.bl), some (.int e), some (.ref ra), some (.ref kd), some (.ref ba), some (.ref ha), some (.ref ca), x7, x8, x9, x10, x11, x12, x13] ∧ Go A.mut H H' ∧ H' ba = some (.frz od2 (.dK kb)) ∧ H' ha = some (.frz od (.dK kh)) ∧ BlkAt K A H' n { s with buf := b2, kept := k1 } ∧
            (∀ x : Int, (Sum.inl x : Key) ∈ (kb.take j).map (fun p : Key × V => p.1) → bh x = none → b2 x = none) ∧ ∀ x : Int, ((Sum.inl x : Key) ∈ (kb.take j).map (fun p : Key × V => p.1) → bh x ≠ none) → b2 x = b1 x)
            ⟨_, _, _, _, _, _, _, b1, rfl, g12, hb12, hh12, B12, fun x h => (by cases h), fun x _ => rfl⟩ (fun i σ H' _ p => by obtain ⟨_, _, _, _, _, _, _, _, _, _, h, _⟩ := p; exact h) ?_ ?_
          · rintro j x σ H0 H13 hj ⟨x7, x8, x9, x10, x11, x12, x13, b2, rfl, g13, hb13, hh13, B13, hc1, hc2⟩ ⟨rfl, k, v, hkv, rfl⟩
            obtain ⟨c, kk', rfl, hc, _⟩ := hb2.at hkv
            obtain ⟨hnt, htk'⟩ := nd_take hb2.nd hkv
            have nbb : ba ≠ A.bu := fun z => nbA (by rw [z]; simp [Ad.all])
            have nhb : ha ≠ A.bu := fun z => nhA (by rw [z]; simp [Ad.all])
            refine ⟨_, rfl, _, rfl, ha, _, rfl, .inl ⟨kh, Sum.inl c, .inr ⟨od, hh13⟩, rfl, rfl⟩, _, rfl, ?_⟩
            rw [hh2.isSome]
            cases hbc : bh c with
            | some y =>
              refine ⟨_, _, _, _, _, _, _, b2, rfl, g13, hb13, hh13, B13, fun x hx hxn => ?_, fun x hx => ?_⟩
              · rw [htk'] at hx
                rcases List.mem_append.mp hx with z | z
                · exact hc1 x z hxn
                · rw [Sum.inl.inj (List.mem_singleton.mp z), hbc] at hxn
                  cases hxn
              · exact hc2 x fun z => hx (by rw [htk']; exact List.mem_append_left _ z)
            | none =>
              obtain ⟨kbu, e1, e2⟩ := B13.bufD
              have eqs : ∀ b3 : Int → Option (Int × Wd), b3 = setO b2 c none → (∀ x : Int, (Sum.inl x : Key) ∈ (kb.take (j + 1)).map (fun p : Key × V => p.1) → bh x = none → b3 x = none) ∧ ∀ x : Int, ((Sum.inl x : Key) ∈ (kb.take (j + 1)).map (fun p : Key × V => p.1) → bh x ≠ none) → b3 x = b1 x := fun b3 hb3 => by
                subst hb3
                refine ⟨fun x hx hxn => ?_, fun x hx => ?_⟩
                · by_cases hxc : x = c
                  · rw [hxc, setO_same]
                  · rw [setO_ne hxc]
                    rw [htk'] at hx
                    rcases List.mem_append.mp hx with z | z
                    · exact hc1 x z hxn
                    · exact absurd (Sum.inl.inj (List.mem_singleton.mp z)) hxc
                · have hxc : x ≠ c := fun z => by
                    have := hx (by rw [htk', z]; exact List.mem_append_right _ (List.mem_singleton.mpr rfl))
                    rw [z] at this
                    exact this hbc
                  rw [setO_ne hxc]
                  exact hc2 x fun z => hx (by rw [htk']; exact List.mem_append_left _ z)
              refine ⟨_, rfl, _, _, _, _, _, rfl, B13.ins, T.k_Blocks, T.na_Blocks_buffers, rfl, A.bu, rfl, .inl ⟨_, .inl e1⟩, _, rfl, kbu, Sum.inl c, e1, rfl, fun v hv => ?_, fun hv => ?_⟩
              · obtain ⟨g14, B14⟩ := B13.setBu (e2.drop (b := c))
                exact ⟨_, _, _, _, _, _, _, setO b2 c none, rfl, g13.trans (g14.mono mut_bu), by rw [upd_ne nbb]; exact hb13, by rw [upd_ne nhb]; exact hh13, B14, eqs _ rfl⟩
              · have hbb : b2 c = none := by
                  have h2 := e2.isSome (b := c)
                  rw [hv] at h2
                  have h2 : false = (b2 c).isSome := h2
                  cases hh : b2 c with
                  | none => rfl
                  | some y => rw [hh] at h2; cases h2
                exact ⟨_, _, _, _, _, _, _, b2, rfl, g13, hb13, hh13, B13, eqs _ (by
                  funext y
                  by_cases h : y = c
                  · rw [h, setO_same, hbb]
                  · rw [setO_ne h])⟩
          · rintro σ H13 ⟨x7, x8, x9, x10, x11, x12, x13, b2, rfl, g13, hb13, hh13, B13, hc1, hc2⟩
            rw [List.take_length] at hc1 hc2
            refine ⟨(by decide : 2 ≤ sizeLine), fun t5 h5 => ?_⟩
            obtain ⟨M', I'⟩ := I.alter he (rows := rows) (fun p w h => ⟨hbuf _ h, (hok _ h).1, (hok _ h).2⟩) (fun p w w' h1 h2 => nd_fst hnd h1 h2) (bf := bf) bfI (bh := bh) bhI ow F.ty htk
              (A := fun x => ∃ r ∈ rows, Reach (M e) r.1 x) (fun p w h => ⟨_, h, Reach.refl p⟩) (fun c p k ⟨r, h1, h2⟩ h3 => ⟨r, h1, h2.snoc h3⟩) (fun c p k h1 h2 ⟨r, h3, h4⟩ => F.ab c (ap_cs1 c p k h1 h2) r h3 c h4 rfl)
              (fun c k h1 h2 => ⟨fun x o k' h3 h4 => (F.gv c k h1 h2).1 ⟨x, k', by rw [← h4]; exact h3⟩, fun p w h => (F.gv c k h1 h2).2 _ h⟩)
              (buf' := b2) (fun p w h => by
                rw [hc2 p fun z => ?_]
                · exact hr1 p w h
                · intro z2
                  cases hbf : bf p with
                  | none => exact ((inb p).mp z) hbf
                  | some k => exact (F.gv p k hbf z2).2 _ h rfl) (fun x h1 h2 h3 => hc1 x ((inb x).mpr h2) h3) (fun x h1 h2 => by
                rw [hc2 x fun z => ?_]
                · exact hr2 x h1
                · rcases h2 with h2 | h2
                  · exact absurd h2 ((inb x).mp z)
                  · exact h2)
              (kept' := k1) (fun x h1 h2 => hk1 x ((inh x).mpr h1) h2) (fun x h => hk2 x fun z => by
                rcases h with h | h
                · exact absurd h ((inh x).mp z)
                · exact h)
            exact q _ _ (After.of (g13.trans (Go.new h5)) (B13.go (Go.new h5)) I')
    · rw [decide_eq_false hz0]
      exact ⟨_, rfl, busy _ _ g78⟩
end

end SH

set_option Elab.async false
set_option linter.all false
set_option maxRecDepth 100000
set_option maxHeartbeats 4000000
namespace SH
open PySem PySem.Spec PyProof.Rows L2
inductive Rq where
  | res
  | unr (b : Int)
  | fil (b k : Int)
  | fet (b : Int)
  | wds (b : Int)
  | fgt (b : Int)
  | alt (rows : List (Int × Wd))
  | flu (b : Int)
def RqV (K : PySem.W.Frag) (H : Hp) (v : V) : Rq → Prop
  | .res => TupIs K H v [.str "reserve"]
  | .unr b => TupIs K H v [.str "unreserve", .int b]
  | .fil b k => TupIs K H v [.str "fill", .int b, .int k]
  | .fet b => TupIs K H v [.str "fetch", .int b]
  | .wds b => TupIs K H v [.str "words", .int b]
  | .fgt b => TupIs K H v [.str "forget", .int b]
  | .alt rows => ∃ u, TupIs K H v [.str "alter", u] ∧ RwsV K H u rows
  | .flu b => TupIs K H v [.str "flush", .int b]
def RowsOk (e : Int) (rows : List (Int × Wd)) : Prop := (1 ≤ rows.length ∧ rows.length ≤ 2) ∧ (rows.map Prod.fst).Nodup ∧ ∀ r ∈ rows, Okw r.2 ∧ Clean e r.2
theorem at0 {α : Type} {x : α} {zs : List α} : atI (x :: zs) 0 = some x := by
  refine atI_of (by omega) rfl
def sp_Blocks_request (K : PySem.W.Frag) : Sp := fun vs H Q _ => vs.length = 3 ∧ ∃ A n s L M C e v r, vs = [.ref A.bl, .int e, v] ∧ BlkAt K A H n s ∧ InvB n gdF s L M C ∧ Env e ∧ RqV K H v r ∧
  ((∃ b, r = .wds b ∧ ∀ v H', Go [] H H' → WoR K H' v s e b → Q v H') ∨ ((∀ b, r ≠ .wds b) ∧ (∀ rows, r = .alt rows → RowsOk e rows) ∧ ∀ v H', After K A n H H' → Q v H'))
section
variable {P : Program} {w : World} {K : PySem.W.Frag} {mg : Str → Option Value} {base : Heap}
theorem ok_Blocks_request (T : Txt w K mg) (c_is_number : C8.Cal P w K mg base 1 "is_number" (sp_is_number K) []) (c_Blocks_alter : C8.Met P w K mg base 8 (He.ga K "Blocks") "_alter" (sp_Blocks_alter K) []) (c_Blocks_buffered : C8.Met P w K mg base 10 (He.ga K "Blocks") "_buffered" (sp_Blocks_buffered K) []) (c_Blocks_fetch : C8.Met P w K mg base 6 (He.ga K "Blocks") "_fetch" (sp_Blocks_fetch K) []) (c_Blocks_fill : C8.Met P w K mg base 3 (He.ga K "Blocks") "_fill" (sp_Blocks_fill K) []) (c_Blocks_reserve : C8.Met P w K mg base 10 (He.ga K "Blocks") "_reserve" (sp_Blocks_reserve K) []) (c_Blocks_unreserve : C8.Met P w K mg base 7 (He.ga K "Blocks") "_unreserve" (sp_Blocks_unreserve K) []) (c_Blocks_charged : C8.Met P w K mg base 7 (He.ga K "Blocks") "charged" (sp_Blocks_charged K) []) : C8.Met P w K mg base 11 (He.ga K "Blocks") "request" (sp_Blocks_request K) [] := by
  refine met_go T.f_Blocks_request T.k_Blocks T.me_Blocks_request sc_Blocks_request (fun _ _ _ _ _ _ us hl => match us, hl with | [_, _, _], _ => rfl) (fun _ _ _ _ h => h.1) fun cdv A outer s H vs Q E hr h => ?_
  obtain ⟨es, nn, T_lens⟩ := T.lens
  refine ⟨_, (pss_cons (ps_if (PW.pt (pw_or (pt_not (pt_val (pe_callB (show CallR _ _ (rIsi K) from call_isi) (by rfl) T.b_isinstance (by decide +kernel) (pa_cons (pv 2) (pa_cons (pe_bltn (v := .ty "tuple") (by rfl) T.b_tuple (by decide +kernel) rfl) pa_nil))))) (pw_or (pt_cmpR op_eq (pe_callB (show CallR _ _ (rLen K) from call_len) (by rfl) T.b_len PySem.boot_len (pa_cons (pv 2) pa_nil)) pe_int (nomark _)) (pw_or1 (pt_not (pt_val (pe_callB (show CallR _ _ (rIsi K) from call_isi) (by rfl) T.b_isinstance (by decide +kernel) (pa_cons (pe_ix (show IxR _ (rIxT K) from ix_tup) (pv 2) pe_int (fun _ _ => rfl)) (pa_cons (pe_bltn (v := .ty "str") (by rfl) T.b_str (by decide +kernel) rfl) pa_nil))))))))) (pss_one (ps_ret (C8.pe_gc (by rfl) T.g_BAD))) pss_nil)
    (pss_cons (ps_set (i := 3) sc_Blocks_request.nd rfl (by first | exact Or.inl rfl | exact Or.inr rfl) (pe_ix (show IxR _ (rIxT K) from ix_tup) (pv 2) pe_int (fun _ _ => rfl)))
    (pss_cons (ps_if (PW.pt (pw_or (pt_cmpR (op_notIn_kd T_lens) (pv 3) (C8.pe_gc (by rfl) T.g_LENGTHS) (by rfl)) (pw_or1 (pt_cmpR op_ne (pe_callB (show CallR _ _ (rLen K) from call_len) (by rfl) T.b_len PySem.boot_len (pa_cons (pv 2) pa_nil)) (pe_kd T_lens (C8.pe_gc (by rfl) T.g_LENGTHS) (pv 3) (fun _ _ => rfl)) (nomark _))))) (pss_one (ps_ret (C8.pe_gc (by rfl) T.g_BAD))) pss_nil)
    (pss_cons (ps_if (pt_cmpR op_eq (pv 3) pe_str (nomark _)) (pss_one (ps_ret (C8.pe_mt c_Blocks_reserve hr (by decide) (pv 0) (pa_cons (pv 1) pa_nil)))) pss_nil)
    (pss_cons (ps_if (pt_cmpR op_eq (pv 3) pe_str (nomark _)) (pss_one (ps_ret (pe_tup (pa_cons pe_str (pa_cons (pe_callB (show CallR _ _ (rLen K) from call_len) (by rfl) T.b_len PySem.boot_len (pa_cons (C8.pe_mt c_Blocks_charged hr (by decide) (pv 0) (pa_cons (pv 1) pa_nil)) pa_nil)) pa_nil))))) pss_nil)
    (pss_cons (ps_if (pt_cmpR op_eq (pv 3) pe_str (nomark _)) (pss_one ps_never) pss_nil)
    (pss_cons (ps_if (pt_cmpR op_eq (pv 3) pe_str (nomark _)) (pss_one (ps_ret (C8.pe_mt c_Blocks_alter hr (by decide) (pv 0) (pa_cons (pv 1) (pa_cons (pe_ix (show IxR _ (rIxT K) from ix_tup) (pv 2) pe_int (fun _ _ => rfl)) pa_nil))))) pss_nil)
    (pss_cons (ps_if (pt_not (pt_val (C8.pe_c c_is_number hr (by decide) (by rfl) (pa_cons (pe_ix (show IxR _ (rIxT K) from ix_tup) (pv 2) pe_int (fun _ _ => rfl)) pa_nil)))) (pss_one (ps_ret (C8.pe_gc (by rfl) T.g_BAD))) pss_nil)
    (pss_cons (ps_if (pt_cmpR op_eq (pv 3) pe_str (nomark _)) (pss_one (ps_ret (C8.pe_mt c_Blocks_unreserve hr (by decide) (pv 0) (pa_cons (pv 1) (pa_cons (pe_ix (show IxR _ (rIxT K) from ix_tup) (pv 2) pe_int (fun _ _ => rfl)) pa_nil))))) pss_nil)
    (pss_cons (ps_if (pt_cmpR op_eq (pv 3) pe_str (nomark _)) (pss_one (ps_ret (pe_ifExp (pt_val (C8.pe_c c_is_number hr (by decide) (by rfl) (pa_cons (pe_ix (show IxR _ (rIxT K) from ix_tup) (pv 2) pe_int (fun _ _ => rfl)) pa_nil))) (C8.pe_mt c_Blocks_fill hr (by decide) (pv 0) (pa_cons (pv 1) (pa_cons (pe_ix (show IxR _ (rIxT K) from ix_tup) (pv 2) pe_int (fun _ _ => rfl)) (pa_cons (pe_ix (show IxR _ (rIxT K) from ix_tup) (pv 2) pe_int (fun _ _ => rfl)) pa_nil)))) (C8.pe_gc (by rfl) T.g_BAD)))) pss_nil)
    (pss_cons (ps_if (pt_cmpR op_eq (pv 3) pe_str (nomark _)) (pss_one (ps_ret (C8.pe_mt c_Blocks_fetch hr (by decide) (pv 0) (pa_cons (pv 1) (pa_cons (pe_ix (show IxR _ (rIxT K) from ix_tup) (pv 2) pe_int (fun _ _ => rfl)) pa_nil))))) pss_nil)
    (pss_one (ps_ret (C8.pe_mt c_Blocks_buffered hr (by decide) (pv 0) (pa_cons (pv 1) (pa_cons (pv 3) (pa_cons (pe_ix (show IxR _ (rIxT K) from ix_tup) (pv 2) pe_int (fun _ _ => rfl)) pa_nil))))))))))))))))), ?_⟩
  obtain ⟨_, A, n, s, L, M, C, e, v, r, rfl, B, I, he, hr, hq⟩ := h
  obtain ⟨a, z, rest, m, rfl, ha, hm, hl, hc⟩ : ∃ a z rest, ∃ m : Int, v = .ref a ∧ SqT K H a (.str z :: rest) ∧ (z, He.Dv.int m) ∈ lenVals ∧ ((rest.length + 1 : Nat) : Int) = m ∧
      ((z = "reserve" ∧ r = .res) ∨ (∃ b, z = "unreserve" ∧ rest = [.int b] ∧ r = .unr b) ∨ (∃ b k, z = "fill" ∧ rest = [.int b, .int k] ∧ r = .fil b k) ∨ (∃ b, z = "fetch" ∧ rest = [.int b] ∧ r = .fet b) ∨
        (∃ b, z = "words" ∧ rest = [.int b] ∧ r = .wds b) ∨ (∃ b, z = "forget" ∧ rest = [.int b] ∧ r = .fgt b) ∨ (∃ u rows, z = "alter" ∧ rest = [u] ∧ RwsV K H u rows ∧ r = .alt rows) ∨ (∃ b, z = "flush" ∧ rest = [.int b] ∧ r = .flu b)) := by
    cases r with
    | res => obtain ⟨a, rfl, ha⟩ := hr; exact ⟨a, _, _, 1, rfl, ha, by simp [lenVals], rfl, .inl ⟨rfl, rfl⟩⟩
    | unr b => obtain ⟨a, rfl, ha⟩ := hr; exact ⟨a, _, _, 2, rfl, ha, by simp [lenVals], rfl, .inr (.inl ⟨b, rfl, rfl, rfl⟩)⟩
    | fil b k => obtain ⟨a, rfl, ha⟩ := hr; exact ⟨a, _, _, 3, rfl, ha, by simp [lenVals], rfl, .inr (.inr (.inl ⟨b, k, rfl, rfl, rfl⟩))⟩
    | fet b => obtain ⟨a, rfl, ha⟩ := hr; exact ⟨a, _, _, 2, rfl, ha, by simp [lenVals], rfl, .inr (.inr (.inr (.inl ⟨b, rfl, rfl, rfl⟩)))⟩
    | wds b => obtain ⟨a, rfl, ha⟩ := hr; exact ⟨a, _, _, 2, rfl, ha, by simp [lenVals], rfl, .inr (.inr (.inr (.inr (.inl ⟨b, rfl, rfl, rfl⟩))))⟩
    | fgt b => obtain ⟨a, rfl, ha⟩ := hr; exact ⟨a, _, _, 2, rfl, ha, by simp [lenVals], rfl, .inr (.inr (.inr (.inr (.inr (.inl ⟨b, rfl, rfl, rfl⟩)))))⟩
    | alt rows => obtain ⟨u, ⟨a, rfl, ha⟩, hu⟩ := hr; exact ⟨a, _, _, 2, rfl, ha, by simp [lenVals], rfl, .inr (.inr (.inr (.inr (.inr (.inr (.inl ⟨u, rows, rfl, rfl, hu, rfl⟩))))))⟩
    | flu b => obtain ⟨a, rfl, ha⟩ := hr; exact ⟨a, _, _, 2, rfl, ha, by simp [lenVals], rfl, .inr (.inr (.inr (.inr (.inr (.inr (.inr ⟨b, rfl, rfl, rfl⟩))))))⟩
  obtain ⟨u, hns, hrel⟩ := T.len_ hm
  refine ⟨_, rfl, _, _, _, _, true, rfl, .ty _, ty_tup ha, kit_ty (by decide +kernel), true, rfl, ?_⟩
  refine ⟨_, rfl, _, rest.length + 1, rfl, .inr ⟨_, ha, rfl⟩, rfl, false, congrArg V.bl (decide_eq_false (fun h => by injection h with h; omega)), ?_⟩
  refine ⟨_, rfl, a, _, 0, _, rfl, rfl, ha, at0, _, _, _, _, true, rfl, .ty _, .base (.str _), kit_ty (by decide +kernel), true, rfl, ?_⟩
  refine ⟨_, rfl, a, _, 0, _, rfl, rfl, ha, at0, ?_⟩
  refine ⟨_, rfl, z, some u, rfl, rfl, hns, _, rfl, ?_⟩
  refine ⟨_, rfl, _, rest.length + 1, rfl, .inr ⟨_, ha, rfl⟩, _, rfl, z, u, .int m, rfl, rfl, hns, hrel, rfl, false, congrArg (fun b => V.bl (!b)) (decide_eq_true (by rw [← hl])), ?_⟩
  have two : ∀ {b : V} {bs : List V}, rest = b :: bs → atI (V.str z :: rest) 1 = some b := fun {b bs} h => by rw [h]; exact at1
  have notw : ∀ {x : Rq}, r = x → (∀ b, x ≠ .wds b) → (∀ rows, x = .alt rows → RowsOk e rows) ∧ ∀ v H', After K A n H H' → Q v H' := fun {x} h1 h2 => by
    rcases hq with ⟨b, h3, _⟩ | ⟨_, h4, h5⟩
    · exact absurd (h1.symm.trans h3) (h2 b)
    · exact ⟨fun rows h => h4 rows (h1.trans h), h5⟩
  rcases hc with ⟨rfl, hx⟩ | ⟨b, rfl, hre, hx⟩ | ⟨b, k, rfl, hre, hx⟩ | ⟨b, rfl, hre, hx⟩ | ⟨b, rfl, hre, hx⟩ | ⟨b, rfl, hre, hx⟩ | ⟨w, rows, rfl, hre, hw, hx⟩ | ⟨b, rfl, hre, hx⟩
  · obtain ⟨_, q⟩ := notw hx (fun b h => by cases h)
    refine ⟨_, rfl, rfl, true, rfl, ?_⟩
    exact ⟨_, rfl, A.bl, _, _, rfl, B.ins, rfl, _, rfl, rfl, A, n, s, L, M, C, e, rfl, B, I, he, q⟩
  · obtain ⟨_, q⟩ := notw hx (fun b h => by cases h)
    refine ⟨_, rfl, rfl, false, rfl, _, rfl, rfl, false, rfl, _, rfl, rfl, false, rfl, _, rfl, rfl, false, rfl, ?_⟩
    refine ⟨_, rfl, a, _, 1, _, rfl, rfl, ha, two hre, rfl, b, rfl, true, rfl, ?_⟩
    refine ⟨_, rfl, rfl, true, rfl, ?_⟩
    exact ⟨_, rfl, A.bl, _, _, rfl, B.ins, rfl, _, rfl, _, rfl, a, _, 1, _, rfl, rfl, ha, two hre, rfl, A, n, s, L, M, C, e, b, rfl, B, I, he, q⟩
  · obtain ⟨_, q⟩ := notw hx (fun b h => by cases h)
    have three : atI (V.str "fill" :: rest) 2 = some (.int k) := by rw [hre]; rfl
    refine ⟨_, rfl, rfl, false, rfl, _, rfl, rfl, false, rfl, _, rfl, rfl, false, rfl, _, rfl, rfl, false, rfl, ?_⟩
    refine ⟨_, rfl, a, _, 1, _, rfl, rfl, ha, two hre, rfl, b, rfl, true, rfl, ?_⟩
    refine ⟨_, rfl, rfl, false, rfl, _, rfl, rfl, true, rfl, ?_⟩
    refine ⟨_, rfl, a, _, 2, _, rfl, rfl, ha, three, rfl, k, rfl, true, rfl, ?_⟩
    exact ⟨_, rfl, A.bl, _, _, rfl, B.ins, rfl, _, rfl, _, rfl, a, _, 1, _, rfl, rfl, ha, two hre, _, rfl, a, _, 2, _, rfl, rfl, ha, three, rfl, A, n, s, L, M, C, e, b, k, rfl, B, I, he, q⟩
  · obtain ⟨_, q⟩ := notw hx (fun b h => by cases h)
    refine ⟨_, rfl, rfl, false, rfl, _, rfl, rfl, false, rfl, _, rfl, rfl, false, rfl, _, rfl, rfl, false, rfl, ?_⟩
    refine ⟨_, rfl, a, _, 1, _, rfl, rfl, ha, two hre, rfl, b, rfl, true, rfl, ?_⟩
    refine ⟨_, rfl, rfl, false, rfl, _, rfl, rfl, false, rfl, _, rfl, rfl, true, rfl, ?_⟩
    exact ⟨_, rfl, A.bl, _, _, rfl, B.ins, rfl, _, rfl, _, rfl, a, _, 1, _, rfl, rfl, ha, two hre, rfl, A, n, s, L, M, C, e, b, rfl, B, I, he, q⟩
  · have q : ∀ v H', Go [] H H' → WoR K H' v s e b → Q v H' := by
      rcases hq with ⟨b', h3, h4⟩ | ⟨h4, _⟩
      · rw [hx] at h3
        injection h3 with h3
        rw [h3]
        exact h4
      · exact absurd hx (h4 b)
    refine ⟨_, rfl, rfl, false, rfl, _, rfl, rfl, false, rfl, _, rfl, rfl, false, rfl, _, rfl, rfl, false, rfl, ?_⟩
    refine ⟨_, rfl, a, _, 1, _, rfl, rfl, ha, two hre, rfl, b, rfl, true, rfl, ?_⟩
    refine ⟨_, rfl, rfl, false, rfl, _, rfl, rfl, false, rfl, _, rfl, rfl, false, rfl, ?_⟩
    exact ⟨_, rfl, A.bl, _, _, rfl, B.ins, rfl, _, rfl, _, rfl, _, rfl, a, _, 1, _, rfl, rfl, ha, two hre, rfl, A, n, s, L, M, C, e, b, _, rfl, B, I, he, .inl ⟨rfl, q⟩⟩
  · obtain ⟨_, q⟩ := notw hx (fun b h => by cases h)
    refine ⟨_, rfl, rfl, false, rfl, _, rfl, rfl, false, rfl, _, rfl, rfl, false, rfl, _, rfl, rfl, false, rfl, ?_⟩
    refine ⟨_, rfl, a, _, 1, _, rfl, rfl, ha, two hre, rfl, b, rfl, true, rfl, ?_⟩
    refine ⟨_, rfl, rfl, false, rfl, _, rfl, rfl, false, rfl, _, rfl, rfl, false, rfl, ?_⟩
    exact ⟨_, rfl, A.bl, _, _, rfl, B.ins, rfl, _, rfl, _, rfl, _, rfl, a, _, 1, _, rfl, rfl, ha, two hre, rfl, A, n, s, L, M, C, e, b, _, rfl, B, I, he, .inr ⟨.inr rfl, q⟩⟩
  · obtain ⟨hrows, q⟩ := notw hx (fun b h => by cases h)
    obtain ⟨r1, r2, r3⟩ := hrows rows rfl
    refine ⟨_, rfl, rfl, false, rfl, _, rfl, rfl, false, rfl, _, rfl, rfl, false, rfl, _, rfl, rfl, true, rfl, ?_⟩
    exact ⟨_, rfl, A.bl, _, _, rfl, B.ins, rfl, _, rfl, _, rfl, a, _, 1, _, rfl, rfl, ha, two hre, rfl, A, n, s, L, M, C, e, w, rows, rfl, B, I, he, hw, r1, r2, r3, q⟩
  · obtain ⟨_, q⟩ := notw hx (fun b h => by cases h)
    refine ⟨_, rfl, rfl, false, rfl, _, rfl, rfl, false, rfl, _, rfl, rfl, false, rfl, _, rfl, rfl, false, rfl, ?_⟩
    refine ⟨_, rfl, a, _, 1, _, rfl, rfl, ha, two hre, rfl, b, rfl, true, rfl, ?_⟩
    refine ⟨_, rfl, rfl, false, rfl, _, rfl, rfl, false, rfl, _, rfl, rfl, false, rfl, ?_⟩
    exact ⟨_, rfl, A.bl, _, _, rfl, B.ins, rfl, _, rfl, _, rfl, _, rfl, a, _, 1, _, rfl, rfl, ha, two hre, rfl, A, n, s, L, M, C, e, b, _, rfl, B, I, he, .inr ⟨.inl rfl, q⟩⟩
end

end SH

set_option Elab.async false
set_option linter.all false
set_option maxRecDepth 100000
set_option maxHeartbeats 4000000
namespace SH
open PySem PySem.Spec PyProof.Rows L2
structure TapeAt (K : PySem.W.Frag) (H : Hp) (tp sc : Addr) : Prop where
  ex : ∃ (ns : List Int) (pos rest seed : Int), H tp = some (.lst [.ref sc, .int pos, .int rest, .int seed]) ∧ H sc = some (.lst (ns.map V.int)) ∧ sc ≠ tp ∧ 0 ≤ pos ∧ 0 ≤ rest ∧ 0 ≤ seed ∧ seed < 2147483647
theorem TapeAt.go {K : PySem.W.Frag} {H H' : Hp} {tp sc : Addr} {Z : List Addr} (h : TapeAt K H tp sc) (g : Go Z H H') (z1 : tp ∉ Z) (z2 : sc ∉ Z) : TapeAt K H' tp sc := by
  obtain ⟨ns, pos, rest, seed, a, b, c⟩ := h.ex
  exact ⟨ns, pos, rest, seed, g.fr _ _ a z1, g.fr _ _ b z2, c⟩
abbrev INT : List V → Hp → VK → Prop := fun xs H Q => (∃ i, xs = [V.int i] ∧ Q (V.int i) H) ∨ ∃ k, xs = [V.bl k] ∧ Q (V.int (if k = true then 1 else 0)) H
def sp_law_next (K : PySem.W.Frag) : Sp := fun vs H Q _ => vs.length = 2 ∧ ∃ tp sc m, vs = [.ref tp, .int m] ∧ TapeAt K H tp sc ∧ 0 < m ∧ m < 1073741824 ∧ ∀ r H', Go [tp] H H' → TapeAt K H' tp sc → 0 ≤ r → r < m → Q (.int r) H'
section
variable {P : Program} {w : World} {K : PySem.W.Frag} {mg : Str → Option Value} {base : Heap}
theorem ok_law_next (T : Txt w K mg)  : C8.Cal P w K mg base 1 "_law_next" (sp_law_next K) [] := by
  refine cal_go T.f_law_next T.o_law_next sc_law_next (fun _ _ _ _ _ _ us hl => match us, hl with | [_, _], _ => rfl) (fun _ _ _ _ h => h.1) fun cdv A outer s H vs Q E hr h => ?_
  refine ⟨_, (pss_cons (ps_set (i := 2) sc_law_next.nd rfl (by first | exact Or.inl rfl | exact Or.inr rfl) (pe_ix (show IxR _ (rIxL K) from ix_list) (pv 0) pe_int (fun _ _ => rfl)))
    (pss_cons (ps_if (pt_cmpR op_eq (pv 2) pe_int (nomark _)) (pss_cons (ps_set (i := 3) sc_law_next.nd rfl (by first | exact Or.inl rfl | exact Or.inr rfl) pe_int)
    (pss_cons (ps_if (pt_cmpR op_lt (pe_ix (show IxR _ (rIxL K) from ix_list) (pv 0) pe_int (fun _ _ => rfl)) (pe_callB (show CallR _ _ (rLen K) from call_len) (by rfl) T.b_len PySem.boot_len (pa_cons (pe_ix (show IxR _ (rIxL K) from ix_list) (pv 0) pe_int (fun _ _ => rfl)) pa_nil)) (nomark _)) (pss_cons (ps_set (i := 3) sc_law_next.nd rfl (by first | exact Or.inl rfl | exact Or.inr rfl) (pe_callB call_abs (by rfl) T.b_abs (by decide +kernel) (pa_cons (pe_callTy call_int1 (by rfl) T.b_int (by decide +kernel) (pa_cons (pe_ix (show IxR _ (rIxL K) from ix_list) (pe_ix (show IxR _ (rIxL K) from ix_list) (pv 0) pe_int (fun _ _ => rfl)) (pe_ix (show IxR _ (rIxL K) from ix_list) (pv 0) pe_int (fun _ _ => rfl)) (fun _ _ => rfl)) pa_nil)) pa_nil)))
    (pss_one (ps_asg (pe_op op_add (pe_ix (show IxR _ (rIxL K) from ix_list) (pv 0) pe_int (fun _ _ => rfl)) pe_int) (pg_sub (pv 0) pe_int set_list)))) pss_nil)
    (pss_cons (ps_set (i := 2) sc_law_next.nd rfl (by first | exact Or.inl rfl | exact Or.inr rfl) (pv 3))
    (pss_one (ps_if (pt_cmpR op_lt (pv 3) (pe_op op_pow pe_int pe_int) (nomark _)) (pss_cons (ps_asg (pe_op op_mod (pe_callTy call_int1 (by rfl) T.b_int (by decide +kernel) (pa_cons (pe_op op_add (pe_op op_add (pe_op op_mul (pe_ix (show IxR _ (rIxL K) from ix_list) (pv 0) pe_int (fun _ _ => rfl)) pe_int) (pe_op op_mul (pv 3) pe_int)) pe_int) pa_nil)) pe_int) (pg_sub (pv 0) pe_int set_list))
    (pss_one (ps_ret (pe_op op_mod (pe_op op_mod (pe_callTy call_int1 (by rfl) T.b_int (by decide +kernel) (pa_cons (pe_op op_mul (pe_op op_fdiv (pe_ix (show IxR _ (rIxL K) from ix_list) (pv 0) pe_int (fun _ _ => rfl)) pe_int) pe_int) pa_nil)) pe_int) (pv 1))))) pss_nil))))) pss_nil)
    (pss_cons (ps_asg (pe_op op_fdiv (pv 2) (pv 1)) (pg_sub (pv 0) pe_int set_list))
    (pss_one (ps_ret (pe_op op_mod (pe_callTy call_int1 (by rfl) T.b_int (by decide +kernel) (pa_cons (pv 2) pa_nil)) (pv 1))))))), ?_⟩
  obtain ⟨_, tp, sc, m, rfl, ⟨ns, pos, rest, seed, ht, hs, ne, p0, r0, s0, s1⟩, m0, m1, q⟩ := h
  have mod_ok : ∀ i : Int, 0 ≤ i % m ∧ i % m < m := fun i => ⟨Int.emod_nonneg _ (by omega), Int.emod_lt_of_pos _ m0⟩
  have tail : ∀ (rest' pos' : Int) (x3 : Option V) (H1 : Hp), 0 ≤ rest' → 0 ≤ pos' → Go [tp] H H1 → H1 tp = some (.lst [.ref sc, .int pos', .int rest, .int seed]) → H1 sc = some (.lst (ns.map V.int)) →
      tSeq (tAsg (tOp (rI CDiv fun i j => V.int (i / j)) (tVar 2) (tVar 1)) (gSub (tVar 0) (tC (V.int 2)) rSetL)) (tRet (tOp (rI (fun x j => 0 < j) fun i j => V.int (i % j)) (tCB INT (tCons (tVar 2) tNil)) (tVar 1)))
        { nx := fun _ H' => Q .non H', rt := Q } [some (.ref tp), some (.int m), some (.int rest'), x3] H1 := by
    intro rest' pos' x3 H1 h0 hp0 g h1 h2
    refine ⟨_, rfl, _, rfl, rest', m, rfl, rfl, ⟨m0, m1⟩, ?_⟩
    refine ⟨_, rfl, tp, _, 2, 2, rfl, rfl, h1, rfl, ?_⟩
    have g2 : Go [tp] H1 (upd H1 tp (.lst ([V.ref sc, .int pos', .int rest, .int seed].set 2 (.int (rest' / m))))) := Go.put List.mem_cons_self (by rw [h1]; trivial)
    refine ⟨_, rfl, .inl ⟨rest', rfl, _, rfl, rest', m, rfl, rfl, m0, ?_⟩⟩
    refine q _ _ (g.trans g2) ⟨ns, pos', rest' / m, seed, upd_same, by rw [upd_ne ne]; exact h2, ne, hp0, Int.ediv_nonneg h0 (by omega), s0, s1⟩ (mod_ok _).1 (mod_ok _).2
  refine ⟨_, rfl, tp, _, 2, _, rfl, rfl, .inl (.inl ht), rfl, ?_⟩
  refine ⟨_, rfl, rfl, _, rfl, ?_⟩
  rw [dec_int]
  by_cases hr : rest = 0
  · rw [hr, beq_self_eq_true]
    subst hr
    have fin : ∀ (cell pos' : Int) (x2 : Option V) (H1 : Hp), 0 ≤ cell → 0 ≤ pos' → Go [tp] H H1 → H1 tp = some (.lst [.ref sc, .int pos', .int 0, .int seed]) → H1 sc = some (.lst (ns.map V.int)) →
        tSeq (tAsg (tVar 3) (gName 2)) (tIfS (tTest (tOp (rI0 fun i j => V.bl (decide (i < j))) (tVar 3) (tOp (rI CPow fun i j => V.int (i ^ j.toNat)) (tC (V.int 10)) (tC (V.int 18)))))
          (tSeq (tAsg (tOp (rI (fun x j => 0 < j) fun i j => V.int (i % j)) (tCB INT (tCons (tOp (rI0 fun i j => V.int (i + j)) (tOp (rI0 fun i j => V.int (i + j)) (tOp (rI CMul fun i j => V.int (i * j)) (tOp (rIxL K) (tVar 0) (tC (V.int 3))) (tC (V.int 69621))) (tOp (rI CMul fun i j => V.int (i * j)) (tVar 3) (tC (V.int 40692)))) (tC (V.int 17))) tNil)) (tC (V.int 2147483647))) (gSub (tVar 0) (tC (V.int 3)) rSetL))
            (tRet (tOp (rI (fun x j => 0 < j) fun i j => V.int (i % j)) (tOp (rI (fun x j => 0 < j) fun i j => V.int (i % j)) (tCB INT (tCons (tOp (rI CMul fun i j => V.int (i * j)) (tOp (rI CDiv fun i j => V.int (i / j)) (tOp (rIxL K) (tVar 0) (tC (V.int 3))) (tC (V.int 5))) (tC (V.int 48271))) tNil)) (tC (V.int 2147483647))) (tVar 1)))) tNext)
        { nx := tSeq (tAsg (tOp (rI CDiv fun i j => V.int (i / j)) (tVar 2) (tVar 1)) (gSub (tVar 0) (tC (V.int 2)) rSetL)) (tRet (tOp (rI (fun x j => 0 < j) fun i j => V.int (i % j)) (tCB INT (tCons (tVar 2) tNil)) (tVar 1))) { nx := fun _ H' => Q .non H', rt := Q }, rt := Q }
        [some (.ref tp), some (.int m), x2, some (.int cell)] H1 := by
      intro cell pos' x2 H1 h0 hp0 g h1 h2
      refine ⟨_, rfl, ?_⟩
      refine ⟨_, rfl, 10, 18, rfl, rfl, ⟨by decide, by decide, by decide⟩, cell, _, rfl, rfl, _, rfl, ?_⟩
      by_cases hc : cell < 10 ^ (18 : Int).toNat
      · rw [decide_eq_true hc]
        refine ⟨_, rfl, tp, _, 3, _, rfl, rfl, .inl (.inl h1), rfl, _, 69621, rfl, rfl, .inr ⟨by decide, by decide⟩, _, rfl, _, 40692, rfl, rfl, .inr ⟨by decide, by decide⟩, _, _, rfl, rfl, _, 17, rfl, rfl, .inl ⟨_, rfl, _, 2147483647, rfl, rfl, (by decide : (0 : Int) < 2147483647), ?_⟩⟩
        refine ⟨_, rfl, tp, _, 3, 3, rfl, rfl, h1, rfl, ?_⟩
        dsimp only
        generalize hsd : (seed * 69621 + cell * 40692 + 17) % 2147483647 = seed'
        have q0 : 0 ≤ seed' := by rw [← hsd]; exact Int.emod_nonneg _ (by decide)
        have q1 : seed' < 2147483647 := by rw [← hsd]; exact Int.emod_lt_of_pos _ (by decide)
        have g2 : Go [tp] H1 (upd H1 tp (.lst ([V.ref sc, .int pos', .int 0, .int seed].set 3 (.int seed')))) := Go.put List.mem_cons_self (by rw [h1]; trivial)
        have h3 : upd H1 tp (.lst ([V.ref sc, .int pos', .int 0, .int seed].set 3 (.int seed'))) tp = some (.lst [V.ref sc, .int pos', .int 0, .int seed']) := upd_same
        have h4 : upd H1 tp (.lst ([V.ref sc, .int pos', .int 0, .int seed].set 3 (.int seed'))) sc = some (.lst (ns.map V.int)) := by rw [upd_ne ne]; exact h2
        generalize upd H1 tp (.lst ([V.ref sc, .int pos', .int 0, .int seed].set 3 (.int seed'))) = H2 at g2 h3 h4 ⊢
        refine ⟨_, rfl, tp, _, 3, _, rfl, rfl, .inl (.inl h3), rfl, _, 5, rfl, rfl, ⟨by decide, by decide⟩, _, 48271, rfl, rfl, .inr ⟨by decide, by decide⟩, .inl ⟨_, rfl, _, 2147483647, rfl, rfl, (by decide : (0 : Int) < 2147483647), _, rfl, _, m, rfl, rfl, m0, ?_⟩⟩
        exact q _ _ (g.trans g2) ⟨ns, pos', 0, seed', h3, h4, ne, hp0, by omega, q0, q1⟩ (mod_ok _).1 (mod_ok _).2
      · rw [decide_eq_false hc]
        exact tail cell pos' _ H1 h0 hp0 g h1 h2
    refine ⟨_, rfl, tp, _, 1, _, rfl, rfl, .inl (.inl ht), rfl, _, rfl, tp, _, 0, _, rfl, rfl, .inl (.inl ht), rfl, _, ns.length, rfl, .inl ⟨_, .inl (.inl hs), by rw [List.length_map]⟩, _, _, rfl, rfl, _, rfl, ?_⟩
    by_cases hp : pos < (ns.length : Int)
    · rw [decide_eq_true hp]
      have hpn : pos.toNat < ns.length := by omega
      refine ⟨_, rfl, tp, _, 0, _, rfl, rfl, .inl (.inl ht), rfl, _, rfl, tp, _, 1, _, rfl, rfl, .inl (.inl ht), rfl, sc, _, pos, _, rfl, rfl, .inl (.inl hs), atI_of p0 (map_get (List.getElem?_eq_getElem hpn)), .inl ⟨_, rfl, _, rfl, ?_⟩⟩
      refine ⟨_, rfl, tp, _, 1, _, rfl, rfl, .inl (.inl ht), rfl, pos, 1, rfl, rfl, ?_⟩
      refine ⟨_, rfl, tp, _, 1, 1, rfl, rfl, ht, rfl, ?_⟩
      have g2 : Go [tp] H (upd H tp (.lst ([V.ref sc, .int pos, .int 0, .int seed].set 1 (.int (pos + 1))))) := Go.put List.mem_cons_self (by rw [ht]; trivial)
      refine fin _ (pos + 1) _ _ ?_ (by omega) g2 upd_same (by rw [upd_ne ne]; exact hs)
      split <;> omega
    · rw [decide_eq_false hp]
      exact fin 0 pos _ H (by omega) p0 Go.refl ht hs
  · rw [beq_eq_false_iff_ne.mpr hr]
    exact tail rest pos _ H r0 p0 Go.refl ht hs
end
def sp_law_clean (K : PySem.W.Frag) : Sp := fun vs H Q _ => vs.length = 2 ∧ ∃ v e w, vs = [v, .int e] ∧ WdV K H v w ∧ w.length = 8 ∧ Clean e w ∧ ∀ H', Go [] H H' → Q (.bl true) H'
section
variable {P : Program} {w : World} {K : PySem.W.Frag} {mg : Str → Option Value} {base : Heap}
theorem ok_law_clean (T : Txt w K mg)  : C8.Cal P w K mg base 1 "_law_clean" (sp_law_clean K) [] := by
  refine cal_go T.f_law_clean T.o_law_clean sc_law_clean (fun _ _ _ _ _ _ us hl => match us, hl with | [_, _], _ => rfl) (fun _ _ _ _ h => h.1) fun cdv A outer s H vs Q E hr h => ?_
  refine ⟨_, (pss_one (ps_ret (pe_cmpR op_eq (pe_callB (show CallR _ _ (rLen K) from call_len) (by rfl) T.b_len PySem.boot_len (pa_cons (pe_lc (own := [("_law_word", 2)]) rfl sc_law_clean.nd (pi_tup (pe_slice (show SlR _ (rSlT K) from sl_tup) (pv 0) (po_some pe_int) (po_some pe_int))) (blkOk_by (own := [("_law_word", 2)]) (N := n_law_clean) (sc := defScope s_law_clean) (by decide +kernel)) (fun _ _ _ _ _ => (pg_name (i := 2) sc_law_clean.nd rfl (by first | exact Or.inl rfl | exact Or.inr rfl))) (fun _ _ _ _ _ => pts_one (pt_cmpR (show OpR _ _ (rIn K true) from op_notIn_seq) (pv 2) (pe_tup (pa_cons pe_int (pa_cons (pe_op op_add pe_int (pv 1)) pa_nil))) (by rfl))) (fun _ _ _ _ _ => (pv 2))) pa_nil)) pe_int (nomark _)))), ?_⟩
  obtain ⟨_, v, e, w, rfl, ⟨a, rfl, ha⟩, hw, hc, q⟩ := h
  obtain ⟨x0, x1, x2, x3, x4, x5, x6, x7, rfl⟩ := len8 hw
  refine ⟨_, rfl, _, rfl, _, rfl, a, _, rfl, ha, (show ¬ (HT.sIx 8 0 (some 4) = 0 ∧ HT.sIx 8 8 (some 7) = 8) by decide), fun p hp => ⟨p, rfl, ⟨_, .inl (.inl upd_same)⟩, ?_⟩⟩
  have g1 : Go [] H (upd H p (.tup (cutV ([x0, x1, x2, x3, x4, x5, x6, x7].map V.int) (some 4) (some 7)))) := Go.new hp
  have h1 : SqT K (upd H p (.tup (cutV ([x0, x1, x2, x3, x4, x5, x6, x7].map V.int) (some 4) (some 7)))) p ([x4, x5, x6].map V.int) := .inl (.inl upd_same)
  generalize upd H p (.tup (cutV ([x0, x1, x2, x3, x4, x5, x6, x7].map V.int) (some 4) (some 7))) = H1 at g1 h1 ⊢
  refine lc_go (Z := []) (fun i acc _ => acc = []) (wk_tup (xs := [x4, x5, x6].map V.int)) (show 3 ≤ sizeLine by decide) no_z (fun H' g => g.tup h1) (fun _ _ => rfl) (fun _ _ _ _ _ _ h _ => h) ?_ ?_
  · intro i x acc H' hi hx hl g hR K1 K2 k1 k2
    obtain ⟨y, hy, rfl⟩ := map_at hx
    have hy2 : y = 0 ∨ y = 100 + e := hc y (by
      have := List.mem_of_getElem? hy
      simpa using this)
    refine ⟨rfl, _, rfl, _, rfl, 100, e, rfl, rfl, (by decide : 2 ≤ sizeLine), fun t ht => ⟨t, _, rfl, .inr (.inl (.inl upd_same)), rfl, rfl, false, ?_, ?_⟩⟩
    · have : inV (V.int y) [V.int 0, V.int (100 + e)] = true := (inV_int (ns := [0, 100 + e])).mpr (by simpa using hy2)
      show V.bl (!inV (V.int y) [V.int 0, V.int (100 + e)]) = _
      rw [this]
      rfl
    · exact k2 _ (Go.new ht) hR
  · intro D acc H' hD g hacc hl hR
    subst hR
    exact ⟨_, 0, rfl, .inl ⟨[], .inl (.inl hacc), rfl⟩, rfl, q _ (g1.trans g)⟩
end
def sp_law_pick (K : PySem.W.Frag) : Sp := fun vs H Q _ => vs.length = 3 ∧ ∃ tp sc A n s L M C e, vs = [.ref tp, .ref A.bl, .int e] ∧ TapeAt K H tp sc ∧ tp ∉ A.all ∧ BlkAt K A H n s ∧ InvB n gdF s L M C ∧ Env e ∧ ∀ p H', Go [tp] H H' → TapeAt K H' tp sc → 0 ≤ p → p < n → Q (.int p) H'
section
variable {P : Program} {w : World} {K : PySem.W.Frag} {mg : Str → Option Value} {base : Heap}
theorem ok_law_pick (T : Txt w K mg) (c_law_next : C8.Cal P w K mg base 1 "_law_next" (sp_law_next K) []) (c_Blocks_memory_forest : C8.Met P w K mg base 5 (He.ga K "Blocks") "memory_forest" (sp_Blocks_memory_forest K) []) (c_Blocks_reserved : C8.Met P w K mg base 1 (He.ga K "Blocks") "reserved" (sp_Blocks_reserved K) []) : C8.Cal P w K mg base 6 "_law_pick" (sp_law_pick K) [] := by
  refine cal_go T.f_law_pick T.o_law_pick sc_law_pick (fun _ _ _ _ _ _ us hl => match us, hl with | [_, _, _], _ => rfl) (fun _ _ _ _ h => h.1) fun cdv A outer s H vs Q E hr h => ?_
  refine ⟨_, (pss_cons (ps_set (i := 3) sc_law_pick.nd rfl (by first | exact Or.inl rfl | exact Or.inr rfl) (pe_op op_cat (pe_op op_cat (pe_op op_cat (pe_callB cr_sortedI (by rfl) T.b_sorted (by decide +kernel) (pa_cons (pe_callTy (call_listD rfl) (by rfl) T.b_list (by decide +kernel) (pa_cons (C8.pe_mt c_Blocks_memory_forest hr (by decide) (pv 1) (pa_cons (pv 2) pa_nil)) pa_nil)) pa_nil)) (C8.pe_mt c_Blocks_reserved hr (by decide) (pv 1) (pa_cons (pv 2) pa_nil))) (C8.pe_mt c_Blocks_reserved hr (by decide) (pv 1) (pa_cons (pv 2) pa_nil))) (pe_lst (pa_cons (pv 2) (pa_cons (pv 2) pa_nil)))))
    (pss_cons (ps_if (pt_cmpR op_eq (C8.pe_c c_law_next hr (by decide) (by rfl) (pa_cons (pv 0) (pa_cons pe_int pa_nil))) pe_int (nomark _)) (pss_one (ps_ret (C8.pe_c c_law_next hr (by decide) (by rfl) (pa_cons (pv 0) (pa_cons (pe_fldK K rfl (pe_fldK K rfl (pv 1) rfl) rfl) pa_nil))))) pss_nil)
    (pss_one (ps_ret (pe_ix (show IxR _ (rIxL K) from ix_list) (pv 3) (C8.pe_c c_law_next hr (by decide) (by rfl) (pa_cons (pv 0) (pa_cons (pe_callB (show CallR _ _ (rLen K) from call_len) (by rfl) T.b_len PySem.boot_len (pa_cons (pv 3) pa_nil)) pa_nil))) (fun _ _ => rfl)))))), ?_⟩
  obtain ⟨_, tp, sc, A, n, s, L, M, C, e, rfl, ht, htA, B, I, he, q⟩ := h
  have hn0 := B.disk.n0
  have hbas := I.bas
  have he1 := he.1
  have he2 := he.2
  have hs5 : 1000 ≤ sizeLine := by decide
  refine ⟨_, rfl, A.bl, _, _, rfl, B.ins, rfl, _, rfl, rfl, A, n, s, e, rfl, B, hbas, he, fun v H1 g1 hf => ?_⟩
  obtain ⟨p, kvs, rfl, hp0, hp1, hm1, hr1⟩ := hf.is (I.mf e he)
  refine ⟨p, kvs, rfl, .inl hp1, fun l hl => ?_⟩
  obtain ⟨ks, hks, hknd, hkm⟩ := hm1.ints
  have ekv : kvs.map (fun kv => kV kv.1) = ks.map V.int := by
    have h1 : kvs.map (fun kv => kV kv.1) = (kvs.map (fun p => p.1)).map kV := by rw [List.map_map] <;> rfl
    rw [h1, hks, List.map_map] <;> rfl
  have hkr : ∀ z ∈ ks, 0 ≤ z ∧ z < n := fun z hz => by
    obtain ⟨x, hx⟩ := (hkm z).mp hz
    exact hr1 z x hx
  have hksl : ks.length ≤ 64 := by
    have h1 := hm1.len (n := 64) fun b x hb => by
      have := hr1 b x hb
      omega
    have h2 : ks.length = kvs.length := by
      have := congrArg List.length hks
      simpa using this.symm
    omega
  rw [ekv]
  have g2 : Go [] H1 (upd H1 l (.lst (ks.map V.int))) := Go.new hl
  have h2l : upd H1 l (.lst (ks.map V.int)) l = some (.lst (ks.map V.int)) := upd_same
  have g12 := g1.trans g2
  generalize upd H1 l (.lst (ks.map V.int)) = H2 at g2 h2l g12 ⊢
  refine ⟨l, ks, rfl, .inl (.inl h2l), fun ks' l2 hperm _ hl2 => ?_⟩
  have g3 : Go [] H2 (upd H2 l2 (.lst (ks'.map V.int))) := Go.new hl2
  have h3l : upd H2 l2 (.lst (ks'.map V.int)) l2 = some (.lst (ks'.map V.int)) := upd_same
  have g13 := g12.trans g3
  generalize upd H2 l2 (.lst (ks'.map V.int)) = H3 at g3 h3l g13 ⊢
  have B3 := B.go g13
  refine ⟨_, rfl, A.bl, _, _, rfl, B3.ins, rfl, _, rfl, rfl, A, n, s, e, rfl, B3, hbas, fun p4 ns4 H4 g4 hp40 hp4 _ hm4 hn4 => ?_⟩
  have g14 := g13.trans g4
  refine ⟨l2, p4, _, _, rfl, rfl, g4.at h3l, hp4, by rw [List.length_map, List.length_map, hperm.length_eq]; omega, fun c5 hc5 => ?_⟩
  have g5 : Go [] H4 (upd H4 c5 (.lst (ks'.map V.int ++ ns4.map V.int))) := Go.new hc5
  have h5c : upd H4 c5 (.lst (ks'.map V.int ++ ns4.map V.int)) c5 = some (.lst (ks'.map V.int ++ ns4.map V.int)) := upd_same
  have g15 := g14.trans g5
  generalize upd H4 c5 (.lst (ks'.map V.int ++ ns4.map V.int)) = H5 at g5 h5c g15 ⊢
  have B5 := B.go g15
  refine ⟨_, rfl, A.bl, _, _, rfl, B5.ins, rfl, _, rfl, rfl, A, n, s, e, rfl, B5, hbas, fun p6 ns6 H6 g6 hp60 hp6 _ hm6 hn6 => ?_⟩
  have g16 := g15.trans g6
  refine ⟨c5, p6, _, _, rfl, rfl, g6.at h5c, hp6, by simp only [List.length_append, List.length_map]; rw [hperm.length_eq]; omega, fun c7 hc7 => ?_⟩
  have g7 : Go [] H6 (upd H6 c7 (.lst (ks'.map V.int ++ ns4.map V.int ++ ns6.map V.int))) := Go.new hc7
  have h7c : upd H6 c7 (.lst (ks'.map V.int ++ ns4.map V.int ++ ns6.map V.int)) c7 = some (.lst (ks'.map V.int ++ ns4.map V.int ++ ns6.map V.int)) := upd_same
  have g17 := g16.trans g7
  generalize upd H6 c7 (.lst (ks'.map V.int ++ ns4.map V.int ++ ns6.map V.int)) = H7 at g7 h7c g17 ⊢
  refine ⟨_, rfl, _, rfl, (by decide : 2 ≤ sizeLine), fun l8 hl8 => ?_⟩
  have g8 : Go [] H7 (upd H7 l8 (.lst [.int e, .int e])) := Go.new hl8
  have h8l : upd H7 l8 (.lst [.int e, .int e]) l8 = some (.lst [.int e, .int e]) := upd_same
  have h8c := g8.at h7c
  have g18 := g17.trans g8
  generalize upd H7 l8 (.lst [.int e, .int e]) = H8 at g8 h8l h8c g18 ⊢
  refine ⟨c7, l8, _, _, rfl, rfl, h8c, h8l, by simp only [List.length_append, List.length_map, List.length_cons, List.length_nil]; rw [hperm.length_eq]; omega, fun mn hmn => ?_⟩
  obtain ⟨zs, hzs⟩ : ∃ zs : List Int, zs = ks' ++ ns4 ++ ns6 ++ [e, e] := ⟨_, rfl⟩
  have ez : ks'.map V.int ++ ns4.map V.int ++ ns6.map V.int ++ [V.int e, V.int e] = zs.map V.int := by rw [hzs]; simp
  rw [ez]
  have hzr : ∀ z ∈ zs, 0 ≤ z ∧ z < n := fun z hz => by
    have rk : (∃ k, s.kept z = some (e, k)) → 0 ≤ z ∧ z < n := fun ⟨k, hk⟩ => by
      have := (hbas.kept z e k hk).2
      omega
    rw [hzs] at hz
    simp only [List.mem_append, List.mem_cons, List.not_mem_nil, or_false] at hz
    rcases hz with ((h | h) | h) | (h | h)
    · exact hkr z (hperm.mem_iff.mp h)
    · exact rk ((hm4 z).mp h)
    · exact rk ((hm6 z).mp h)
    · omega
    · omega
  have hzl : 0 < zs.length ∧ zs.length ≤ 200 := by
    rw [hzs]
    simp only [List.length_append, List.length_cons, List.length_nil]
    rw [hperm.length_eq]
    omega
  have g9 : Go [] H8 (upd H8 mn (.lst (zs.map V.int))) := Go.new hmn
  have h9m : upd H8 mn (.lst (zs.map V.int)) mn = some (.lst (zs.map V.int)) := upd_same
  have hmn0 : H mn = none := g18.free hmn
  have g19 := g18.trans g9
  generalize upd H8 mn (.lst (zs.map V.int)) = H9 at g9 h9m g19 ⊢
  have ht9 := ht.go g19 (by simp) (by simp)
  have ntm : mn ≠ tp := by
    obtain ⟨_, _, _, _, a, _⟩ := ht.ex
    exact (ne_of_none a hmn0).symm
  refine ⟨_, rfl, rfl, tp, sc, 8, rfl, ht9, by decide, by decide, fun r HA gA htA' hr0 hr1 => ?_⟩
  have gg := g19.lift.trans gA
  refine ⟨rfl, _, rfl, ?_⟩
  rw [dec_int]
  have BA := B.goZ gg fun a ha => by
    simp only [List.mem_singleton]
    intro z
    rw [z] at ha
    exact htA ha
  by_cases hr : r = 0
  · rw [hr, beq_self_eq_true]
    refine ⟨_, rfl, _, rfl, _, _, _, _, _, rfl, BA.ins, T.k_Blocks, T.na_Blocks_disk, rfl, _, _, _, _, _, rfl, BA.disk.ins, T.k_Disk, T.na_Disk_blocks, rfl, rfl, tp, sc, n, rfl, htA', by omega, by omega, fun p HB gB htB hp0 hp1 => ?_⟩
    exact q p HB (gg.trans gB) htB hp0 hp1
  · rw [beq_eq_false_iff_ne.mpr hr]
    have hmA : HA mn = some (.lst (zs.map V.int)) := gA.fr _ _ h9m (by simpa using ntm)
    refine ⟨_, rfl, _, rfl, _, rfl, _, zs.length, rfl, .inl ⟨_, .inl (.inl hmA), by rw [List.length_map]⟩, rfl, tp, sc, _, rfl, htA', by omega, by omega, fun j HB gB htB hj0 hj1 => ?_⟩
    have hmB : HB mn = some (.lst (zs.map V.int)) := gB.fr _ _ hmA (by simpa using ntm)
    have hjl : j.toNat < zs.length := by omega
    refine ⟨mn, _, j, _, rfl, rfl, .inl (.inl hmB), atI_of hj0 (map_get (List.getElem?_eq_getElem hjl)), ?_⟩
    have := hzr _ (List.getElem_mem hjl)
    exact q _ HB (gg.trans gB) htB this.1 this.2
end

end SH

set_option Elab.async false
set_option linter.all false
set_option maxRecDepth 100000
set_option maxHeartbeats 4000000
namespace SH
open PySem PySem.Spec PyProof.Rows L2
theorem seq_by {a u : TS} {D : Ends} {σ : L2.St} {H : Hp} (Pv : L2.St → Hp → Prop) (h1 : ∀ N : L2.St → Hp → Prop, (∀ σ H, Pv σ H → N σ H) → a { D with nx := N } σ H) (h2 : ∀ σ H, Pv σ H → u D σ H) : tSeq a u D σ H := h1 _ h2
theorem ixN_of {n : Nat} {i : Int} (h0 : 0 ≤ i) (h1 : i < n) : ixN n i = some i.toNat := by
  unfold ixN
  rw [if_pos h0, if_pos h1]
structure WS (K : PySem.W.Frag) (tp sc l : Addr) (H0 : Hp) (w : Wd) (H : Hp) : Prop where
  go : Go [tp] H0 H
  ht : TapeAt K H tp sc
  hl : H l = some (.lst (w.map V.int))
  nw : H0 l = none
  ne : l ≠ tp
  ns : l ≠ sc
  ok : Okw w
section
variable {K : PySem.W.Frag} {tp sc l : Addr} {H0 H H' : Hp} {w : Wd}
theorem TapeAt.ntp {p : Addr} (h : TapeAt K H tp sc) (hp : H p = none) : p ≠ tp := by
  obtain ⟨ns, pos, rest, seed, a, b, c⟩ := h.ex
  exact (ne_of_none a hp).symm
theorem TapeAt.nsc {p : Addr} (h : TapeAt K H tp sc) (hp : H p = none) : p ≠ sc := by
  obtain ⟨ns, pos, rest, seed, a, b, c⟩ := h.ex
  exact (ne_of_none b hp).symm
theorem TapeAt.new {p : Addr} {o : HO} (h : TapeAt K H tp sc) (hp : H p = none) : TapeAt K (upd H p o) tp sc := h.go (Go.new (Z := []) hp) (by simp) (by simp)
theorem WS.step (h : WS K tp sc l H0 w H) (g : Go [tp] H H') (t : TapeAt K H' tp sc) : WS K tp sc l H0 w H' := ⟨h.go.trans g, t, g.fr _ _ h.hl (by simpa using h.ne), h.nw, h.ne, h.ns, h.ok⟩
theorem WS.alloc {p : Addr} {o : HO} (h : WS K tp sc l H0 w H) (hp : H p = none) : WS K tp sc l H0 w (upd H p o) := h.step (Go.new hp) (h.ht.new hp)
theorem WS.put {j : Nat} {x : Int} (h : WS K tp sc l H0 w H) (hx : 0 ≤ x ∧ x ≤ 4294967295) : WS K tp sc l H0 (w.set j x) (upd H l (.lst ((w.map V.int).set j (.int x)))) where
  go := h.go.late h.nw
  ht := by
    obtain ⟨ns, pos, rest, seed, a, b, c⟩ := h.ht.ex
    exact ⟨ns, pos, rest, seed, by rw [upd_ne h.ne.symm]; exact a, by rw [upd_ne h.ns.symm]; exact b, c⟩
  hl := by rw [upd_same, List.map_set]
  nw := h.nw
  ne := h.ne
  ns := h.ns
  ok := ⟨by rw [List.length_set]; exact h.ok.1, fun y hy => by
    rcases List.mem_or_eq_of_mem_set hy with z | z
    · exact h.ok.2 y z
    · rw [z]; exact hx⟩
theorem WS.new (g : Go [tp] H0 H) (t : TapeAt K H tp sc) (hl : H l = none) (ok : Okw w) : WS K tp sc l H0 w (upd H l (.lst (w.map V.int))) := ⟨g.trans (Go.new hl), t.new hl, upd_same, g.free hl, t.ntp hl, t.nsc hl, ok⟩
end
def sp_law_wild_row (K : PySem.W.Frag) : Sp := fun vs H Q _ => vs.length = 4 ∧ ∃ tp sc A n s L M C e b, vs = [.ref tp, .ref A.bl, .int e, .int b] ∧ TapeAt K H tp sc ∧ tp ∉ A.all ∧ BlkAt K A H n s ∧ InvB n gdF s L M C ∧ Env e ∧ 0 ≤ b ∧ b < n ∧
  ∀ v u w H', Go [tp] H H' → TapeAt K H' tp sc → TupIs K H' v [.int b, u] → WdV K H' u w → Okw w → Q v H'
section
variable {P : Program} {w : World} {K : PySem.W.Frag} {mg : Str → Option Value} {base : Heap}
theorem ok_law_wild_row (T : Txt w K mg) (c_law_next : C8.Cal P w K mg base 1 "_law_next" (sp_law_next K) []) (c_law_pick : C8.Cal P w K mg base 6 "_law_pick" (sp_law_pick K) []) (c_Blocks_request : C8.Met P w K mg base 11 (He.ga K "Blocks") "request" (sp_Blocks_request K) []) : C8.Cal P w K mg base 12 "_law_wild_row" (sp_law_wild_row K) [] := by
  refine cal_go T.f_law_wild_row T.o_law_wild_row sc_law_wild_row (fun _ _ _ _ _ _ us hl => match us, hl with | [_, _, _, _], _ => rfl) (fun _ _ _ _ h => h.1) fun cdv A outer s H vs Q E hr h => ?_
  refine ⟨_, (pss_cons (ps_set (i := 4) sc_law_wild_row.nd rfl (by first | exact Or.inl rfl | exact Or.inr rfl) (pe_op op_rep (pe_lst (pa_cons pe_int pa_nil)) pe_int))
    (pss_cons (ps_set (i := 5) sc_law_wild_row.nd rfl (by first | exact Or.inl rfl | exact Or.inr rfl) (C8.pe_mt c_Blocks_request hr (by decide) (pv 1) (pa_cons (pv 2) (pa_cons (pe_tup (pa_cons pe_str (pa_cons (pv 3) pa_nil))) pa_nil))))
    (pss_cons (ps_if (pt_cmpR op_eq (pe_ix (show IxR _ (rIxT K) from ix_tup) (pv 5) pe_int (fun _ _ => rfl)) pe_str (nomark _)) (pss_one (ps_set (i := 4) sc_law_wild_row.nd rfl (by first | exact Or.inl rfl | exact Or.inr rfl) (pe_callTy call_list_of (by rfl) T.b_list (by decide +kernel) (pa_cons (pe_ix (show IxR _ (rIxT K) from ix_tup) (pv 5) pe_int (fun _ _ => rfl)) pa_nil)))) pss_nil)
    (pss_cons (ps_for PassesOwn.never rfl (pi_range1 (by rfl) T.b_range (pa_cons (pe_op op_add pe_int (C8.pe_c c_law_next hr (by decide) (by rfl) (pa_cons (pv 0) (pa_cons pe_int pa_nil)))) pa_nil)) (pg_name (i := 6) sc_law_wild_row.nd rfl (by first | exact Or.inl rfl | exact Or.inr rfl)) (pss_one (ps_asg (pe_ix (show IxR _ (rIxL K) from ix_list) (pe_lst (pa_cons pe_int (pa_cons (C8.pe_c c_law_pick hr (by decide) (by rfl) (pa_cons (pv 0) (pa_cons (pv 1) (pa_cons (pv 2) pa_nil)))) (pa_cons (C8.pe_c c_law_pick hr (by decide) (by rfl) (pa_cons (pv 0) (pa_cons (pv 1) (pa_cons (pv 2) pa_nil)))) pa_nil)))) (C8.pe_c c_law_next hr (by decide) (by rfl) (pa_cons (pv 0) (pa_cons pe_int pa_nil))) (fun _ _ => rfl)) (pg_sub (pv 4) (C8.pe_c c_law_next hr (by decide) (by rfl) (pa_cons (pv 0) (pa_cons pe_int pa_nil))) set_list))))
    (pss_cons (ps_asg (pe_ix (show IxR _ (rIxL K) from ix_list) (pe_lst (pa_cons (pe_ix (show IxR _ (rIxL K) from ix_list) (pv 4) pe_int (fun _ _ => rfl)) (pa_cons pe_int (pa_cons pe_int pa_nil)))) (C8.pe_c c_law_next hr (by decide) (by rfl) (pa_cons (pv 0) (pa_cons pe_int pa_nil))) (fun _ _ => rfl)) (pg_sub (pv 4) pe_int set_list))
    (pss_cons (ps_if (pt_cmpR op_lt (pv 3) pe_int (nomark _)) (pss_one (ps_asg (pe_op op_add pe_int (C8.pe_c c_law_next hr (by decide) (by rfl) (pa_cons (pv 0) (pa_cons pe_int pa_nil)))) (pg_sub (pv 4) pe_int set_list))) pss_nil)
    (pss_one (ps_ret (pe_tup (pa_cons (pv 3) (pa_cons (pe_callTy call_tuple_of (by rfl) T.b_tuple (by decide +kernel) (pa_cons (pv 4) pa_nil)) pa_nil))))))))))), ?_⟩
  obtain ⟨_, tp, sc, A, n, s, L, M, C, e, b, rfl, ht, htA, B, I, he, hb0, hb1, q⟩ := h
  have bk : ∀ {H' : Hp}, Go [tp] H H' → BlkAt K A H' n s := fun {H'} g => B.goZ g fun a ha => by
    simp only [List.mem_singleton]
    intro z
    rw [z] at ha
    exact htA ha
  have hn0 := B.disk.n0
  refine ⟨(by decide : 1 ≤ sizeLine), fun l0 hl0 => ⟨l0, 8, _, rfl, rfl, upd_same, by decide, by decide, by decide, fun l1 hl1 => ?_⟩⟩
  have W1 : WS K tp sc l1 H zer (upd (upd H l0 (.lst [.int 0])) l1 (.lst (List.replicate (8 : Int).toNat [V.int 0]).flatten)) := WS.new (Go.new hl0) (ht.new hl0) hl1 ⟨rfl, by decide⟩
  generalize upd (upd H l0 (.lst [.int 0])) l1 (.lst (List.replicate (8 : Int).toNat [V.int 0]).flatten) = H1 at W1 ⊢
  have B1 := bk W1.go
  refine ⟨_, rfl, A.bl, _, _, rfl, B1.ins, rfl, _, rfl, _, rfl, (by decide : 2 ≤ sizeLine), fun t ht2 => ?_⟩
  have hrq : SqT K (upd H1 t (.tup [V.str "words", V.int b])) t [V.str "words", V.int b] := .inl (.inl upd_same)
  have W2 := W1.alloc (o := .tup [V.str "words", V.int b]) ht2
  generalize upd H1 t (.tup [V.str "words", V.int b]) = H2 at W2 hrq ⊢
  refine ⟨rfl, A, n, s, L, M, C, e, _, .wds b, rfl, bk W2.go, I, he, ⟨t, rfl, hrq⟩, .inl ⟨b, rfl, fun v H3 g3 hw => ?_⟩⟩
  have W3 := W2.step g3.lift (W2.ht.go g3 (by simp) (by simp))
  refine gName_i ?_
  dsimp only
  refine seq_by (fun σ H' => ∃ l w, σ = [some (.ref tp), some (.ref A.bl), some (.int e), some (.int b), some (.ref l), some v, none] ∧ WS K tp sc l H w H') (fun N hN => ?_) ?_
  · rcases hw with ⟨w, u, hbu, ⟨a, rfl, ha⟩, ⟨ua, rfl, hu⟩⟩ | ⟨a, rfl, ha⟩
    · refine ⟨_, rfl, a, _, 0, _, rfl, rfl, ha, at0, rfl, true, rfl, ?_⟩
      refine ⟨_, rfl, a, _, 1, _, rfl, rfl, ha, at1, ua, _, rfl, .inr hu, fun l2 hl2 => ?_⟩
      exact hN _ _ ⟨l2, w, rfl, WS.new W3.go W3.ht hl2 (I.bas.buf b e w hbu).2.2.2⟩
    · refine ⟨_, rfl, a, _, 0, _, rfl, rfl, ha, at0, rfl, false, rfl, ?_⟩
      exact hN _ _ ⟨l1, _, rfl, W3⟩
  rintro σ H4 ⟨l, w4, rfl, W4⟩
  refine ⟨_, rfl, rfl, tp, sc, 3, rfl, W4.ht, by decide, by decide, fun r5 H5 g5 t5 _ _ => ?_⟩
  have W5 := W4.step g5 t5
  refine ⟨1, r5, rfl, rfl, _, rfl, by omega, by omega, ?_⟩
  refine for_it wk_range (fun i σ H' => ∃ x6 w, σ = [some (.ref tp), some (.ref A.bl), some (.int e), some (.int b), some (.ref l), some v, x6] ∧ WS K tp sc l H w H') ⟨_, _, rfl, W5⟩ (fun _ _ _ _ _ => trivial) ?_ ?_
  · rintro i x σ H6 H' hi ⟨x6, w6, rfl, W6⟩ ⟨rfl, rfl⟩
    refine ⟨_, rfl, _, rfl, _, rfl, rfl, tp, sc, A, n, s, L, M, C, e, rfl, W6.ht, htA, bk W6.go, I, he, fun p1 H7 g7 t7 a1 b1 => ?_⟩
    have W7 := W6.step g7 t7
    refine ⟨_, rfl, _, rfl, _, rfl, rfl, tp, sc, A, n, s, L, M, C, e, rfl, W7.ht, htA, bk W7.go, I, he, fun p2 H8 g8 t8 a2 b2 => ?_⟩
    have W8 := W7.step g8 t8
    refine ⟨(by decide : 3 ≤ sizeLine), fun lm hlm => ?_⟩
    have W9 := W8.alloc (o := .lst [V.int 0, V.int p1, V.int p2]) hlm
    have h9 : upd H8 lm (.lst [V.int 0, V.int p1, V.int p2]) lm = some (.lst [V.int 0, V.int p1, V.int p2]) := upd_same
    have nlm := W8.ht.ntp hlm
    generalize upd H8 lm (.lst [V.int 0, V.int p1, V.int p2]) = H9 at W9 h9 ⊢
    refine ⟨_, rfl, rfl, tp, sc, 3, rfl, W9.ht, by decide, by decide, fun r HA gA tA r0 r1 => ?_⟩
    have WA := W9.step gA tA
    have hA := gA.fr _ _ h9 (by simpa using nlm)
    obtain ⟨y, hy, hyr⟩ : ∃ y : Int, [V.int 0, V.int p1, V.int p2][r.toNat]? = some (V.int y) ∧ 0 ≤ y ∧ y ≤ 4294967295 := by
      have h3 : r = 0 ∨ r = 1 ∨ r = 2 := by omega
      rcases h3 with rfl | rfl | rfl
      · exact ⟨0, rfl, by decide, by decide⟩
      · exact ⟨p1, rfl, by omega, by omega⟩
      · exact ⟨p2, rfl, by omega, by omega⟩
    refine ⟨lm, _, r, _, rfl, rfl, .inl (.inl hA), atI_of r0 hy, ?_⟩
    refine ⟨_, rfl, _, rfl, rfl, tp, sc, 4, rfl, WA.ht, by decide, by decide, fun j HB gB tB j0 j1 => ?_⟩
    have WB := WA.step gB tB
    refine ⟨l, _, j, _, rfl, rfl, WB.hl, ixN_of j0 (by rw [List.length_map, WB.ok.1]; omega), ?_⟩
    exact ⟨_, _, rfl, WB.put hyr⟩
  rintro σ H6 ⟨x6, w6, rfl, W6⟩
  obtain ⟨x7, hx7, hx7r⟩ : ∃ x7 : Int, atI (w6.map V.int) 7 = some (V.int x7) ∧ 0 ≤ x7 ∧ x7 ≤ 4294967295 := by
    have h8 := W6.ok.1
    have h9 : 7 < w6.length := by omega
    exact ⟨_, atI_of (by decide) (map_get (List.getElem?_eq_getElem h9)), W6.ok.2 _ (List.getElem_mem h9)⟩
  refine ⟨_, rfl, l, _, 7, _, rfl, rfl, .inl (.inl W6.hl), hx7, (by decide : 3 ≤ sizeLine), fun lm hlm => ?_⟩
  have W9 := W6.alloc (o := .lst [V.int x7, V.int 1, V.int 0]) hlm
  have h9 : upd H6 lm (.lst [V.int x7, V.int 1, V.int 0]) lm = some (.lst [V.int x7, V.int 1, V.int 0]) := upd_same
  have nlm := W6.ht.ntp hlm
  generalize upd H6 lm (.lst [V.int x7, V.int 1, V.int 0]) = H9 at W9 h9 ⊢
  refine ⟨_, rfl, rfl, tp, sc, 3, rfl, W9.ht, by decide, by decide, fun r HA gA tA r0 r1 => ?_⟩
  have WA := W9.step gA tA
  have hA := gA.fr _ _ h9 (by simpa using nlm)
  obtain ⟨y, hy, hyr⟩ : ∃ y : Int, [V.int x7, V.int 1, V.int 0][r.toNat]? = some (V.int y) ∧ 0 ≤ y ∧ y ≤ 4294967295 := by
    have h3 : r = 0 ∨ r = 1 ∨ r = 2 := by omega
    rcases h3 with rfl | rfl | rfl
    · exact ⟨x7, rfl, hx7r⟩
    · exact ⟨1, rfl, by decide, by decide⟩
    · exact ⟨0, rfl, by decide, by decide⟩
  refine ⟨lm, _, r, _, rfl, rfl, .inl (.inl hA), atI_of r0 hy, ?_⟩
  refine ⟨_, rfl, l, _, 7, _, rfl, rfl, WA.hl, ixN_of (by decide) (by rw [List.length_map, WA.ok.1]; decide), ?_⟩
  have WB := WA.put (j := (7 : Int).toNat) hyr
  generalize upd HA l (.lst ((w6.map V.int).set (7 : Int).toNat (.int y))) = HB at WB ⊢
  dsimp only
  refine seq_by (fun σ H' => ∃ w, σ = [some (.ref tp), some (.ref A.bl), some (.int e), some (.int b), some (.ref l), some v, x6] ∧ WS K tp sc l H w H') (fun N hN => ?_) ?_
  · refine ⟨_, rfl, b, 4, rfl, rfl, _, rfl, ?_⟩
    by_cases h4 : b < 4
    · rw [decide_eq_true h4]
      refine ⟨_, rfl, rfl, tp, sc, 2, rfl, WB.ht, by decide, by decide, fun r HC gC tC r0 r1 => ?_⟩
      have WC := WB.step gC tC
      refine ⟨2, r, rfl, rfl, ?_⟩
      refine ⟨_, rfl, l, _, 1, _, rfl, rfl, WC.hl, ixN_of (by decide) (by rw [List.length_map, WC.ok.1]; decide), ?_⟩
      exact hN _ _ ⟨_, rfl, WC.put (by omega)⟩
    · rw [decide_eq_false h4]
      exact hN _ _ ⟨_, rfl, WB⟩
  rintro σ HC ⟨wC, rfl, WC⟩
  refine ⟨_, rfl, _, rfl, l, _, rfl, .inl ⟨.inl (.inl WC.hl), fun t1 ht1 => ⟨(by decide : 2 ≤ sizeLine), fun t2 ht2 => ?_⟩⟩⟩
  have g1 : Go [tp] HC (upd HC t1 (.tup (wC.map V.int))) := Go.new ht1
  have g2 : Go [tp] (upd HC t1 (.tup (wC.map V.int))) (upd (upd HC t1 (.tup (wC.map V.int))) t2 (.tup [V.int b, V.ref t1])) := Go.new ht2
  exact q _ (.ref t1) wC _ ((WC.go.trans g1).trans g2) ((WC.ht.new ht1).new ht2) ⟨t2, rfl, .inl (.inl upd_same)⟩ ⟨t1, rfl, g2.tup (.inl (.inl upd_same))⟩ WC.ok
end
def sp_law_wild (K : PySem.W.Frag) : Sp := fun vs H Q _ => vs.length = 3 ∧ ∃ tp sc A n s L M C e, vs = [.ref tp, .ref A.bl, .int e] ∧ TapeAt K H tp sc ∧ tp ∉ A.all ∧ BlkAt K A H n s ∧ InvB n gdF s L M C ∧ Env e ∧
  ∀ v r H', Go [tp] H H' → TapeAt K H' tp sc → RqV K H' v r → (∀ b, r ≠ .wds b) → (∀ rows, r = .alt rows → (1 ≤ rows.length ∧ rows.length ≤ 2) ∧ (rows.map Prod.fst).Nodup ∧ ∀ r ∈ rows, Okw r.2) → Q v H'
section
variable {P : Program} {w : World} {K : PySem.W.Frag} {mg : Str → Option Value} {base : Heap}
theorem ok_law_wild (T : Txt w K mg) (c_law_next : C8.Cal P w K mg base 1 "_law_next" (sp_law_next K) []) (c_law_pick : C8.Cal P w K mg base 6 "_law_pick" (sp_law_pick K) []) (c_law_wild_row : C8.Cal P w K mg base 12 "_law_wild_row" (sp_law_wild_row K) []) : C8.Cal P w K mg base 13 "_law_wild" (sp_law_wild K) [] := by
  refine cal_go T.f_law_wild T.o_law_wild sc_law_wild (fun _ _ _ _ _ _ us hl => match us, hl with | [_, _, _], _ => rfl) (fun _ _ _ _ h => h.1) fun cdv A outer s H vs Q E hr h => ?_
  refine ⟨_, (pss_cons (ps_set (i := 3) sc_law_wild.nd rfl (by first | exact Or.inl rfl | exact Or.inr rfl) (C8.pe_c c_law_pick hr (by decide) (by rfl) (pa_cons (pv 0) (pa_cons (pv 1) (pa_cons (pv 2) pa_nil)))))
    (pss_cons (ps_set (i := 4) sc_law_wild.nd rfl (by first | exact Or.inl rfl | exact Or.inr rfl) (C8.pe_c c_law_next hr (by decide) (by rfl) (pa_cons (pv 0) (pa_cons pe_int pa_nil))))
    (pss_cons (ps_if (pt_cmpR op_lt (pv 4) pe_int (nomark _)) (pss_one (ps_ret (pe_tup (pa_cons pe_str pa_nil)))) pss_nil)
    (pss_cons (ps_if (pt_cmpR op_lt (pv 4) pe_int (nomark _)) (pss_one (ps_ret (pe_tup (pa_cons pe_str (pa_cons (pv 3) (pa_cons (pe_ix (show IxR _ (rIxL K) from ix_list) (pe_lst (pa_cons pe_int (pa_cons pe_int (pa_cons pe_int (pa_cons pe_int pa_nil))))) (C8.pe_c c_law_next hr (by decide) (by rfl) (pa_cons (pv 0) (pa_cons pe_int pa_nil))) (fun _ _ => rfl)) pa_nil)))))) pss_nil)
    (pss_cons (ps_if (pt_cmpR op_lt (pv 4) pe_int (nomark _)) (pss_one (ps_ret (pe_tup (pa_cons pe_str (pa_cons (pe_ix (show IxR _ (rIxL K) from ix_list) (pe_lst (pa_cons (pv 3) (pa_cons (pv 2) pa_nil))) (C8.pe_c c_law_next hr (by decide) (by rfl) (pa_cons (pv 0) (pa_cons pe_int pa_nil))) (fun _ _ => rfl)) pa_nil))))) pss_nil)
    (pss_cons (ps_if (pt_cmpR op_lt (pv 4) pe_int (nomark _)) (pss_cons (ps_set (i := 5) sc_law_wild.nd rfl (by first | exact Or.inl rfl | exact Or.inr rfl) (pe_lst (pa_cons (C8.pe_c c_law_wild_row hr (by decide) (by rfl) (pa_cons (pv 0) (pa_cons (pv 1) (pa_cons (pv 2) (pa_cons (pv 3) pa_nil))))) pa_nil)))
    (pss_cons (ps_set (i := 6) sc_law_wild.nd rfl (by first | exact Or.inl rfl | exact Or.inr rfl) (C8.pe_c c_law_pick hr (by decide) (by rfl) (pa_cons (pv 0) (pa_cons (pv 1) (pa_cons (pv 2) pa_nil)))))
    (pss_cons (ps_if (PW.pt (pw_and (pt_cmpR op_ne (pv 6) (pv 3) (nomark _)) (pw_and1 (pt_cmpR op_eq (C8.pe_c c_law_next hr (by decide) (by rfl) (pa_cons (pv 0) (pa_cons pe_int pa_nil))) pe_int (nomark _))))) (pss_one (ps_expr (pe_bm PySem.F.plainAttrs_list PySem.F.slot_list_append PySem.F.type_list_append mt_append (pv 5) (pa_cons (C8.pe_c c_law_wild_row hr (by decide) (by rfl) (pa_cons (pv 0) (pa_cons (pv 1) (pa_cons (pv 2) (pa_cons (pv 6) pa_nil))))) pa_nil)))) pss_nil)
    (pss_one (ps_ret (pe_tup (pa_cons pe_str (pa_cons (pe_callTy call_tuple_of (by rfl) T.b_tuple (by decide +kernel) (pa_cons (pv 5) pa_nil)) pa_nil)))))))) pss_nil)
    (pss_cons (ps_if (pt_cmpR op_lt (pv 4) pe_int (nomark _)) (pss_one (ps_ret (pe_tup (pa_cons pe_str (pa_cons (pv 3) pa_nil))))) pss_nil)
    (pss_one (ps_ret (pe_ix (show IxR _ (rIxL K) from ix_list) (pe_lst (pa_cons (pe_tup (pa_cons pe_str (pa_cons (pv 3) pa_nil))) (pa_cons (pe_tup (pa_cons pe_str (pa_cons (pv 3) pa_nil))) pa_nil))) (C8.pe_c c_law_next hr (by decide) (by rfl) (pa_cons (pv 0) (pa_cons pe_int pa_nil))) (fun _ _ => rfl))))))))))), ?_⟩
  obtain ⟨_, tp, sc, A, n, s, L, M, C, e, rfl, ht, htA, B, I, he, q⟩ := h
  have bk : ∀ {H' : Hp}, Go [tp] H H' → BlkAt K A H' n s := fun {H'} g => B.goZ g fun a ha => by
    simp only [List.mem_singleton]
    intro z
    rw [z] at ha
    exact htA ha
  have hn0 := B.disk.n0
  refine ⟨_, rfl, _, rfl, _, rfl, rfl, tp, sc, A, n, s, L, M, C, e, rfl, ht, htA, B, I, he, fun p1 H1 g1 t1 a1 b1 => ?_⟩
  refine ⟨_, rfl, rfl, tp, sc, 14, rfl, t1, by decide, by decide, fun k H2 g2 t2 k0 k1 => ?_⟩
  have g12 := g1.trans g2
  have fin : ∀ {H3 : Hp} {xs : List V} {r : Rq}, Go [tp] H H3 → TapeAt K H3 tp sc → (∀ p, RqV K (upd H3 p (.tup xs)) (.ref p) r) → (∀ b, r ≠ .wds b) → (∀ rows, r = .alt rows → False) → ∀ p, H3 p = none → Q (.ref p) (upd H3 p (.tup xs)) :=
    fun {H3 xs r} g t hv h1 h2 p hp => q _ r _ (g.trans (Go.new hp)) (t.new hp) (hv p) h1 fun rows h => (h2 rows h).elim
  have two : ∀ {α : Type} (x y : α) (r : Int), 0 ≤ r → r < 2 → ∃ z, [x, y][r.toNat]? = some z ∧ (z = x ∨ z = y) := fun {α} x y r h0 h1 => by
    have h3 : r = 0 ∨ r = 1 := by omega
    rcases h3 with rfl | rfl
    · exact ⟨x, rfl, .inl rfl⟩
    · exact ⟨y, rfl, .inr rfl⟩
  refine ⟨_, rfl, k, 3, rfl, rfl, _, rfl, ?_⟩
  by_cases h3 : k < 3
  · rw [decide_eq_true h3]
    exact ⟨(by decide : 1 ≤ sizeLine), fin (r := .res) g12 t2 (fun p => ⟨p, rfl, .inl (.inl upd_same)⟩) (fun b h => by cases h) (fun b h => by cases h)⟩
  rw [decide_eq_false h3]
  refine ⟨_, rfl, k, 5, rfl, rfl, _, rfl, ?_⟩
  by_cases h5 : k < 5
  · rw [decide_eq_true h5]
    refine ⟨_, rfl, (by decide : 4 ≤ sizeLine), fun lm hlm => ?_⟩
    have t3 := t2.new (o := .lst [V.int 2, V.int 2, V.int 0, V.int 3]) hlm
    have g3 : Go [tp] H2 (upd H2 lm (.lst [V.int 2, V.int 2, V.int 0, V.int 3])) := Go.new hlm
    have l3 : upd H2 lm (.lst [V.int 2, V.int 2, V.int 0, V.int 3]) lm = some (.lst [V.int 2, V.int 2, V.int 0, V.int 3]) := upd_same
    have nlm := t2.ntp hlm
    generalize upd H2 lm (.lst [V.int 2, V.int 2, V.int 0, V.int 3]) = H3 at t3 g3 l3 ⊢
    refine ⟨_, rfl, rfl, tp, sc, 4, rfl, t3, by decide, by decide, fun r H4 g4 t4 r0 r1 => ?_⟩
    obtain ⟨y, hy⟩ : ∃ y : Int, [V.int 2, V.int 2, V.int 0, V.int 3][r.toNat]? = some (V.int y) := by
      have h3 : r = 0 ∨ r = 1 ∨ r = 2 ∨ r = 3 := by omega
      rcases h3 with rfl | rfl | rfl | rfl <;> exact ⟨_, rfl⟩
    refine ⟨lm, _, r, _, rfl, rfl, .inl (.inl (g4.fr _ _ l3 (by simpa using nlm))), atI_of r0 hy, (by decide : 3 ≤ sizeLine), ?_⟩
    exact fin (r := .fil p1 y) ((g12.trans g3).trans g4) t4 (fun p => ⟨p, rfl, .inl (.inl upd_same)⟩) (fun b h => by cases h) (fun b h => by cases h)
  rw [decide_eq_false h5]
  refine ⟨_, rfl, k, 7, rfl, rfl, _, rfl, ?_⟩
  by_cases h7 : k < 7
  · rw [decide_eq_true h7]
    refine ⟨_, rfl, _, rfl, (by decide : 2 ≤ sizeLine), fun lm hlm => ?_⟩
    have t3 := t2.new (o := .lst [V.int p1, V.int e]) hlm
    have g3 : Go [tp] H2 (upd H2 lm (.lst [V.int p1, V.int e])) := Go.new hlm
    have l3 : upd H2 lm (.lst [V.int p1, V.int e]) lm = some (.lst [V.int p1, V.int e]) := upd_same
    have nlm := t2.ntp hlm
    generalize upd H2 lm (.lst [V.int p1, V.int e]) = H3 at t3 g3 l3 ⊢
    refine ⟨_, rfl, rfl, tp, sc, 2, rfl, t3, by decide, by decide, fun r H4 g4 t4 r0 r1 => ?_⟩
    obtain ⟨y, hy, _⟩ := two p1 e r r0 r1
    have hy : [V.int p1, V.int e][r.toNat]? = some (V.int y) := map_get (w := [p1, e]) hy
    refine ⟨lm, _, r, _, rfl, rfl, .inl (.inl (g4.fr _ _ l3 (by simpa using nlm))), atI_of r0 hy, (by decide : 2 ≤ sizeLine), ?_⟩
    exact fin (r := .fet y) ((g12.trans g3).trans g4) t4 (fun p => ⟨p, rfl, .inl (.inl upd_same)⟩) (fun b h => by cases h) (fun b h => by cases h)
  rw [decide_eq_false h7]
  refine ⟨_, rfl, k, 10, rfl, rfl, _, rfl, ?_⟩
  by_cases h10 : k < 10
  · rw [decide_eq_true h10]
    refine ⟨_, rfl, _, rfl, _, rfl, _, rfl, rfl, tp, sc, A, n, s, L, M, C, e, p1, rfl, t2, htA, bk g12, I, he, a1, b1, fun v1 u1 w1 H3 g3 t3 hv1 hu1 ok1 => ⟨(by decide : 1 ≤ sizeLine), fun l hl => ?_⟩⟩
    have t4 := t3.new (o := .lst [v1]) hl
    have g4 : Go [tp] H3 (upd H3 l (.lst [v1])) := Go.new hl
    have l4 : upd H3 l (.lst [v1]) l = some (.lst [v1]) := upd_same
    have nl := t3.ntp hl
    have nls := t3.nsc hl
    have g13 := g12.trans g3
    have hl0 : H l = none := g13.free hl
    have g14 := g13.trans g4
    have hv4 := hv1.go g4
    have hu4 := hu1.go g4
    generalize upd H3 l (.lst [v1]) = H4 at t4 g4 l4 g14 hv4 hu4 ⊢
    refine ⟨_, rfl, _, rfl, _, rfl, rfl, tp, sc, A, n, s, L, M, C, e, rfl, t4, htA, bk g14, I, he, fun p2 H5 g5 t5 a2 b2 => ?_⟩
    have l5 := g5.fr _ _ l4 (by simpa using nl)
    have g15 := g14.trans g5
    have hv5 := hv4.go g5
    have hu5 := hu4.go g5
    refine gName_i ?_
    dsimp only
    refine seq_by (fun σ H' => ∃ xs rows, σ = [some (.ref tp), some (.ref A.bl), some (.int e), some (.int p1), some (.int k), some (.ref l), some (.int p2)] ∧ Go [tp] H H' ∧ TapeAt K H' tp sc ∧ H' l = some (.lst xs) ∧ Paired (RwV K H') xs rows ∧ (1 ≤ rows.length ∧ rows.length ≤ 2) ∧ (rows.map Prod.fst).Nodup ∧ ∀ r ∈ rows, Okw r.2) (fun N hN => ?_) ?_
    · have one : ∀ H6, Go [tp] H5 H6 → TapeAt K H6 tp sc → N [some (.ref tp), some (.ref A.bl), some (.int e), some (.int p1), some (.int k), some (.ref l), some (.int p2)] H6 := fun H6 g6 t6 =>
        hN _ _ ⟨[v1], [(p1, w1)], rfl, g15.trans g6, t6, g6.fr _ _ l5 (by simpa using nl), .cons ⟨u1, hv5.go g6, hu5.go g6⟩ .nil, ⟨by show 1 ≤ 1; decide, by show 1 ≤ 2; decide⟩, by simp, fun r hr => by
          rw [List.mem_singleton] at hr
          rw [hr]
          exact ok1⟩
      refine ⟨_, rfl, _, rfl, rfl, _, rfl, ?_⟩
      rw [dec_int]
      by_cases hp : p2 = p1
      · rw [hp, beq_self_eq_true]
        rw [hp] at one
        exact one H5 Go.refl t5
      · rw [beq_eq_false_iff_ne.mpr hp]
        refine ⟨_, rfl, rfl, tp, sc, 2, rfl, t5, by decide, by decide, fun r H6 g6 t6 r0 r1 => ?_⟩
        refine ⟨rfl, _, rfl, ?_⟩
        rw [dec_int]
        by_cases hr0 : r = 0
        · rw [hr0, beq_self_eq_true]
          have l6 := g6.fr _ _ l5 (by simpa using nl)
          refine ⟨_, rfl, .inl ⟨rfl, _, .inl (.inl l6)⟩, ?_⟩
          refine ⟨_, rfl, _, rfl, _, rfl, _, rfl, rfl, tp, sc, A, n, s, L, M, C, e, p2, rfl, t6, htA, bk (g15.trans g6), I, he, a2, b2, fun v2 u2 w2 H7 g7 t7 hv2 hu2 ok2 => ?_⟩
          have l7 := g7.fr _ _ l6 (by simpa using nl)
          refine ⟨l, _, v2, rfl, rfl, l7, (show 1 < sizeLine by decide), ?_⟩
          have gl : Go [l] H7 (upd H7 l (.lst ([v1] ++ [v2]))) := Go.put List.mem_cons_self (by rw [l7]; trivial)
          refine hN _ _ ⟨[v1] ++ [v2], [(p1, w1), (p2, w2)], rfl, ((g15.trans g6).trans g7).late hl0, t7.go gl (by simpa using nl.symm) (by simpa using nls.symm), upd_same, .cons ⟨u1, ((hv5.go g6).go g7).go gl, ((hu5.go g6).go g7).go gl⟩ (.cons ⟨u2, hv2.go gl, hu2.go gl⟩ .nil), ⟨by show 1 ≤ 2; decide, by show 2 ≤ 2; decide⟩, ?_, ?_⟩
          · simp only [List.map_cons, List.map_nil, List.nodup_cons, List.mem_singleton, List.not_mem_nil, not_false_eq_true, List.nodup_nil, and_true]
            exact fun h => hp h.symm
          · intro r hr
            simp only [List.mem_cons, List.not_mem_nil, or_false] at hr
            rcases hr with rfl | rfl
            · exact ok1
            · exact ok2
        · rw [beq_eq_false_iff_ne.mpr hr0]
          exact one H6 g6 t6
    rintro σ H8 ⟨xs, rows, rfl, g18, t8, l8, hp8, hlen, hnd, hok⟩
    refine ⟨_, rfl, l, xs, rfl, .inl ⟨.inl (.inl l8), fun a ha => ⟨(by decide : 2 ≤ sizeLine), fun p hp => ?_⟩⟩⟩
    have ga : Go [tp] H8 (upd H8 a (.tup xs)) := Go.new ha
    have gp : Go [tp] (upd H8 a (.tup xs)) (upd (upd H8 a (.tup xs)) p (.tup [V.str "alter", V.ref a])) := Go.new hp
    refine q _ (.alt rows) _ ((g18.trans ga).trans gp) ((t8.new ha).new hp) ⟨.ref a, ⟨p, rfl, .inl (.inl upd_same)⟩, xs, ⟨a, rfl, gp.tup (.inl (.inl upd_same))⟩, Paired.mapP hp8 fun _ _ z => (z.go ga).go gp⟩ (fun b h => by cases h) (fun rows' h => ?_)
    injection h with h
    rw [← h]
    exact ⟨hlen, hnd, hok⟩
  rw [decide_eq_false h10]
  refine ⟨_, rfl, k, 13, rfl, rfl, _, rfl, ?_⟩
  by_cases h13 : k < 13
  · rw [decide_eq_true h13]
    exact ⟨_, rfl, (by decide : 2 ≤ sizeLine), fin (r := .flu p1) g12 t2 (fun p => ⟨p, rfl, .inl (.inl upd_same)⟩) (fun b h => by cases h) (fun b h => by cases h)⟩
  rw [decide_eq_false h13]
  refine ⟨_, rfl, (by decide : 2 ≤ sizeLine), fun x1 hx1 => ⟨_, rfl, (by decide : 2 ≤ sizeLine), fun x2 hx2 => ⟨(by decide : 2 ≤ sizeLine), fun lm hlm => ?_⟩⟩⟩
  have t3 := ((t2.new (o := .tup [V.str "unreserve", V.int p1]) hx1).new (o := .tup [V.str "forget", V.int p1]) hx2)
  have j1 : Go [tp] H2 (upd H2 x1 (.tup [V.str "unreserve", V.int p1])) := Go.new hx1
  have j2 : Go [tp] (upd H2 x1 (.tup [V.str "unreserve", V.int p1])) (upd (upd H2 x1 (.tup [V.str "unreserve", V.int p1])) x2 (.tup [V.str "forget", V.int p1])) := Go.new hx2
  have m2 : SqT K (upd (upd H2 x1 (.tup [V.str "unreserve", V.int p1])) x2 (.tup [V.str "forget", V.int p1])) x2 [V.str "forget", V.int p1] := .inl (.inl upd_same)
  have m1 : SqT K (upd (upd H2 x1 (.tup [V.str "unreserve", V.int p1])) x2 (.tup [V.str "forget", V.int p1])) x1 [V.str "unreserve", V.int p1] := j2.tup (.inl (.inl upd_same))
  have j3 := (g12.trans j1).trans j2
  generalize upd (upd H2 x1 (.tup [V.str "unreserve", V.int p1])) x2 (.tup [V.str "forget", V.int p1]) = H3 at t3 m1 m2 j3 hlm ⊢
  have nlm := t3.ntp hlm
  have t4 := t3.new (o := .lst [V.ref x1, V.ref x2]) hlm
  have j4 : Go [tp] H3 (upd H3 lm (.lst [V.ref x1, V.ref x2])) := Go.new hlm
  have l4 : upd H3 lm (.lst [V.ref x1, V.ref x2]) lm = some (.lst [V.ref x1, V.ref x2]) := upd_same
  generalize upd H3 lm (.lst [V.ref x1, V.ref x2]) = H4 at t4 j4 l4 ⊢
  refine ⟨_, rfl, rfl, tp, sc, 2, rfl, t4, by decide, by decide, fun r H5 g5 t5 r0 r1 => ?_⟩
  obtain ⟨y, hy, hy2⟩ := two (V.ref x1) (V.ref x2) r r0 r1
  refine ⟨lm, _, r, _, rfl, rfl, .inl (.inl (g5.fr _ _ l4 (by simpa using nlm))), atI_of r0 hy, ?_⟩
  rcases hy2 with rfl | rfl
  · exact q _ (.unr p1) _ ((j3.trans j4).trans g5) t5 ⟨x1, rfl, g5.tup (j4.tup m1)⟩ (fun b h => by cases h) (fun b h => by cases h)
  · exact q _ (.fgt p1) _ ((j3.trans j4).trans g5) t5 ⟨x2, rfl, g5.tup (j4.tup m2)⟩ (fun b h => by cases h) (fun b h => by cases h)
end

end SH

set_option Elab.async false
set_option linter.all false
set_option maxRecDepth 100000
set_option maxHeartbeats 4000000
namespace SH
open PySem PySem.Spec PyProof.Rows L2
theorem lc_go2 {Z : List Addr} {J : It} {n : Nat} {G : Hp → Prop} {Yx : Nat → V → Prop} {g : TG} {tt : TT} {te : TE} {vs : List Nat} {σ : L2.St} {H1 : Hp} {Qd : Addr → Hp → Prop} (R : Nat → List V → Hp → Prop)
    (w : Walk J n G (fun i H x H' => H' = H ∧ Yx i x)) (hn : n ≤ sizeLine) (hZ : ∀ a ∈ Z, ∃ o, H1 a = some o) (hG : ∀ H, Go Z H1 H → G H)
    (h0 : ∀ D, H1 D = none → R 0 [] (upd H1 D (.lst []))) (stab : ∀ i acc D H H', H1 D = none → R i acc H → Go [D] H H' → R i acc H')
    (step : ∀ i x acc H, i < n → Yx i x → acc.length ≤ i → Go Z H1 H → R i acc H → ∀ (K1 : VK) (K2 : Hp → Prop), (∀ y H4, Go Z H H4 → R (i + 1) (acc ++ [y]) H4 → K1 y H4) → (∀ H3, Go Z H H3 → R (i + 1) acc H3 → K2 H3) →
      g x (wipe σ vs) H fun σ2 H2 => wipe σ2 vs = wipe σ vs ∧ tt σ2 H2 fun b H3 => if b = true then te σ2 H3 K1 else K2 H3)
    (fin : ∀ D acc H, H1 D = none → Go Z H1 H → H D = some (.lst acc) → acc.length ≤ n → R n acc H → Qd D H) :
    ∀ D, H1 D = none → ∃ W : Nat → Nat → Hp → Prop, (∃ m, W 0 m (upd H1 D (.lst []))) ∧ ∀ i m H, W i m H →
      (J.stop i H ∧ Qd D H) ∨ (J.go i H ∧ ∃ Nx : Hp → Prop, (∀ H', Nx H' → ∃ m', m' < m ∧ W (i + 1) m' H') ∧ ∀ x H', J.yld i H x H' → g x (wipe σ vs) H' fun σ2 H2 => wipe σ2 vs = wipe σ vs ∧ tt σ2 H2 fun b H3 =>
        if b = true then te σ2 H3 fun y H4 => ∃ acc, H4 D = some (.lst acc) ∧ acc.length < sizeLine ∧ Nx (upd H4 D (.lst (acc ++ [y]))) else Nx H3) := by
  intro D hD
  have nZ : D ∉ Z := fun m => by
    obtain ⟨o, e⟩ := hZ D m
    rw [hD] at e; cases e
  refine lc_it w (fun i H => Go Z H1 H ∧ ∃ acc, H D = some (.lst acc) ∧ acc.length ≤ i ∧ R i acc H) ⟨Go.new hD, [], upd_same, Nat.le_refl _, h0 D hD⟩ (fun i H _ p => hG H p.1) ?_ ?_
  · rintro i x H H' hi ⟨g1, acc, ha, hl, r⟩ ⟨e, y⟩
    subst e
    refine step i x acc H' hi y hl g1 r (fun y H4 => ∃ acc, H4 D = some (.lst acc) ∧ acc.length < sizeLine ∧ Go Z H1 (upd H4 D (.lst (acc ++ [y]))) ∧ ∃ acc', upd H4 D (.lst (acc ++ [y])) D = some (.lst acc') ∧ acc'.length ≤ i + 1 ∧ R (i + 1) acc' (upd H4 D (.lst (acc ++ [y])))) (fun H3 => Go Z H1 H3 ∧ ∃ acc, H3 D = some (.lst acc) ∧ acc.length ≤ i + 1 ∧ R (i + 1) acc H3) ?_ ?_
    · intro y H4 g2 r2
      have ha4 := g2.fr _ _ ha nZ
      have hl2 : (acc ++ [y]).length ≤ i + 1 := by rw [List.length_append]; simp; omega
      exact ⟨acc, ha4, by omega, (g1.trans g2).late hD, acc ++ [y], upd_same, hl2, stab _ _ D _ _ hD r2 (Go.put List.mem_cons_self (by rw [ha4]; trivial))⟩
    · intro H3 g2 r2
      exact ⟨g1.trans g2, acc, g2.fr _ _ ha nZ, Nat.le_succ_of_le hl, r2⟩
  · rintro H ⟨g1, acc, ha, hl, r⟩
    exact fin D acc H hD g1 ha hl r
def sp_law_marked (K : PySem.W.Frag) : Sp := fun vs H Q _ => vs.length = 3 ∧ ∃ tp sc A n s L M C e, vs = [.ref tp, .ref A.bl, .int e] ∧ TapeAt K H tp sc ∧ tp ∉ A.all ∧ BlkAt K A H n s ∧ InvB n gdF s L M C ∧ Env e ∧
  ∀ v r H', Go [tp] H H' → TapeAt K H' tp sc → RqV K H' v r → (∀ b, r ≠ .wds b) → (∀ rows, r = .alt rows → RowsOk e rows) → Q v H'
section
variable {P : Program} {w : World} {K : PySem.W.Frag} {mg : Str → Option Value} {base : Heap}
theorem ok_law_marked (T : Txt w K mg) (c_law_next : C8.Cal P w K mg base 1 "_law_next" (sp_law_next K) []) (c_law_wild : C8.Cal P w K mg base 13 "_law_wild" (sp_law_wild K) []) : C8.Cal P w K mg base 14 "_law_marked" (sp_law_marked K) [] := by
  refine cal_go T.f_law_marked T.o_law_marked sc_law_marked (fun _ _ _ _ _ _ us hl => match us, hl with | [_, _, _], _ => rfl) (fun _ _ _ _ h => h.1) fun cdv A outer s H vs Q E hr h => ?_
  refine ⟨_, (pss_cons (ps_set (i := 3) sc_law_marked.nd rfl (by first | exact Or.inl rfl | exact Or.inr rfl) (C8.pe_c c_law_wild hr (by decide) (by rfl) (pa_cons (pv 0) (pa_cons (pv 1) (pa_cons (pv 2) pa_nil)))))
    (pss_cons (ps_if (pt_cmpR op_ne (pe_ix (show IxR _ (rIxT K) from ix_tup) (pv 3) pe_int (fun _ _ => rfl)) pe_str (nomark _)) (pss_one (ps_ret (pv 3))) pss_nil)
    (pss_cons (ps_set (i := 4) sc_law_marked.nd rfl (by first | exact Or.inl rfl | exact Or.inr rfl) (pe_lst pa_nil))
    (pss_cons (ps_for PassesOwn.never rfl (pi_tup (pe_ix (show IxR _ (rIxT K) from ix_tup) (pv 3) pe_int (fun _ _ => rfl))) (pg_tupK K (n := 2) rfl rfl (pgs_cons (pg_name (i := 5) sc_law_marked.nd rfl (by first | exact Or.inl rfl | exact Or.inr rfl)) (pgs_cons (pg_name (i := 6) sc_law_marked.nd rfl (by first | exact Or.inl rfl | exact Or.inr rfl)) pgs_nil))) (pss_cons (ps_set (i := 7) sc_law_marked.nd rfl (by first | exact Or.inl rfl | exact Or.inr rfl) (pe_op op_catT (pe_op op_catT (pe_slice (show SlR _ (rSlT K) from sl_tup) (pv 6) po_none (po_some pe_int)) (pe_callTy call_tuple_of (by rfl) T.b_tuple (by decide +kernel) (pa_cons (pe_lc (own := [("_law_k", 8)]) rfl sc_law_marked.nd (pi_range1 (by rfl) T.b_range (pa_cons pe_int pa_nil)) (blkOk_by (own := [("_law_k", 8)]) (N := n_law_marked) (sc := defScope s_law_marked) (by decide +kernel)) (fun _ _ _ _ _ => (pg_name (i := 8) sc_law_marked.nd rfl (by first | exact Or.inl rfl | exact Or.inr rfl))) (fun _ _ _ _ _ => pts_nil) (fun _ _ _ _ _ => (pe_ix (show IxR _ (rIxL K) from ix_list) (pe_lst (pa_cons pe_int (pa_cons (pe_op op_add pe_int (pv 2)) pa_nil))) (C8.pe_c c_law_next hr (by decide) (by rfl) (pa_cons (pv 0) (pa_cons pe_int pa_nil))) (fun _ _ => rfl)))) pa_nil))) (pe_slice (show SlR _ (rSlT K) from sl_tup) (pv 6) (po_some pe_int) po_none)))
    (pss_one (ps_expr (pe_bm PySem.F.plainAttrs_list PySem.F.slot_list_append PySem.F.type_list_append mt_append (pv 4) (pa_cons (pe_tup (pa_cons (pv 5) (pa_cons (pv 7) pa_nil))) pa_nil))))))
    (pss_one (ps_ret (pe_tup (pa_cons pe_str (pa_cons (pe_callTy call_tuple_of (by rfl) T.b_tuple (by decide +kernel) (pa_cons (pv 4) pa_nil)) pa_nil))))))))), ?_⟩
  obtain ⟨_, tp, sc, A, n, s, L, M, C, e, rfl, ht, htA, B, I, he, q⟩ := h
  have he1 := he.1
  have he2 := he.2
  refine ⟨_, rfl, _, rfl, _, rfl, rfl, tp, sc, A, n, s, L, M, C, e, rfl, ht, htA, B, I, he, fun v r H1 g1 t1 hv hw hr => ?_⟩
  have other : ∀ {z : Str} {r0 : Rq} {rest : List V}, r = r0 → (∀ rows, r0 ≠ .alt rows) → TupIs K H1 v (.str z :: rest) → z ≠ "alter" → _ := fun {z r0 rest} h0 h1 h2 h3 => True.intro
  refine gName_i ?_
  dsimp only
  rcases (by cases r with
    | res => exact .inl ⟨_, _, hv, by decide, fun rows h => by cases h⟩
    | unr b => exact .inl ⟨_, _, hv, by decide, fun rows h => by cases h⟩
    | fil b k => exact .inl ⟨_, _, hv, by decide, fun rows h => by cases h⟩
    | fet b => exact .inl ⟨_, _, hv, by decide, fun rows h => by cases h⟩
    | wds b => exact absurd rfl (hw b)
    | fgt b => exact .inl ⟨_, _, hv, by decide, fun rows h => by cases h⟩
    | alt rows => exact .inr ⟨rows, rfl⟩
    | flu b => exact .inl ⟨_, _, hv, by decide, fun rows h => by cases h⟩ : (∃ (z : Str) (rest : List V), TupIs K H1 v (.str z :: rest) ∧ z ≠ "alter" ∧ ∀ rows, r ≠ .alt rows) ∨ ∃ rows, r = .alt rows) with ⟨z, rest, ⟨a, rfl, ha⟩, hz, hna⟩ | ⟨rows, rfl⟩
  · refine ⟨_, rfl, a, _, 0, _, rfl, rfl, ha, at0, rfl, true, congrArg (fun b => V.bl (!b)) (decide_eq_false (fun h => hz (by injection h))), ?_⟩
    exact ⟨_, rfl, q _ r _ g1 t1 hv hw fun rows h => absurd h (hna rows)⟩
  obtain ⟨u, ⟨a, rfl, ha⟩, ts, ⟨au, rfl, hau⟩, hts⟩ := hv
  obtain ⟨⟨hl1, hl2⟩, hnd, hok⟩ := hr rows rfl
  refine ⟨_, rfl, a, _, 0, _, rfl, rfl, ha, at0, rfl, false, rfl, ?_⟩
  refine ⟨(by decide : 0 ≤ sizeLine), fun l hl => ?_⟩
  have t2 := t1.new (o := .lst []) hl
  have g2 : Go [tp] H1 (upd H1 l (.lst [])) := Go.new hl
  have l2 : upd H1 l (.lst []) l = some (.lst []) := upd_same
  have nl := t1.ntp hl
  have nls := t1.nsc hl
  have hl0 : H l = none := g1.free hl
  have g12 := g1.trans g2
  have ha2 := g2.tup ha
  have hau2 := g2.tup hau
  have hts2 := Paired.mapP hts fun _ _ z => RwV.go z g2
  have htl := hts.length
  generalize upd H1 l (.lst []) = H2 at t2 g2 l2 g12 ha2 hau2 hts2 ⊢
  refine ⟨_, rfl, a, _, 1, _, rfl, rfl, ha2, at1, au, rfl, ⟨_, hau2⟩, ?_⟩
  refine for_it wk_tup (fun i σ H' => ∃ x5 x6 x7 x8 xs rws, σ = [some (.ref tp), some (.ref A.bl), some (.int e), some (.ref a), some (.ref l), x5, x6, x7, x8] ∧ Go [tp] H H' ∧ Go [tp, l] H2 H' ∧ TapeAt K H' tp sc ∧ H' l = some (.lst xs) ∧ Paired (RwV K H') xs rws ∧ rws.map Prod.fst = (rows.take i).map Prod.fst ∧ ∀ r ∈ rws, Okw r.2 ∧ Clean e r.2)
    ⟨_, _, _, _, [], [], rfl, g12, Go.refl, t2, l2, .nil, rfl, fun r h => by cases h⟩ (fun i σ H' _ p => by obtain ⟨_, _, _, _, _, _, _, _, g, _⟩ := p; exact g.tup hau2) ?_ ?_
  · rintro i x σ H0 H3 hi ⟨x5, x6, x7, x8, xs, rws, rfl, g3, g3', t3, l3, hp3, hf3, hc3⟩ ⟨rfl, hx⟩
    obtain ⟨⟨p, w⟩, hrow, u, ⟨t, rfl, htt⟩, ⟨aw, rfl, haw⟩⟩ := paired_at hts2 hx
    have hrin := List.mem_of_getElem? hrow
    have hokw := hok _ hrin
    obtain ⟨hw8, hwr⟩ : w.length = 8 ∧ ∀ x ∈ w, 0 ≤ x ∧ x ≤ 4294967295 := hokw
    obtain ⟨x0, x1, x2, x3, x4, x5', x6', x7', rfl⟩ := len8 hw8
    have haw : SqT K H2 aw ([x0, x1, x2, x3, x4, x5', x6', x7'].map V.int) := haw
    refine ⟨t, _, rfl, g3'.tup htt, rfl, _, _, rfl, _, _, rfl, rfl, ?_⟩
    refine ⟨_, rfl, _, rfl, aw, _, rfl, g3'.tup haw, (show ¬ (HT.sIx 8 0 none = 0 ∧ HT.sIx 8 8 (some 4) = 8) by decide), fun s1 hs1 => ?_⟩
    have t4 := t3.new (o := .tup (cutV ([x0, x1, x2, x3, x4, x5', x6', x7'].map V.int) none (some 4))) hs1
    have g4 : Go [] H3 (upd H3 s1 (.tup (cutV ([x0, x1, x2, x3, x4, x5', x6', x7'].map V.int) none (some 4)))) := Go.new hs1
    have m4 : SqT K (upd H3 s1 (.tup (cutV ([x0, x1, x2, x3, x4, x5', x6', x7'].map V.int) none (some 4)))) s1 ([x0, x1, x2, x3].map V.int) := .inl (.inl upd_same)
    generalize upd H3 s1 (.tup (cutV ([x0, x1, x2, x3, x4, x5', x6', x7'].map V.int) none (some 4))) = H4 at t4 g4 m4 ⊢
    refine ⟨3, rfl, by decide, by decide, ?_⟩
    refine lc_go2 (Z := [tp]) (fun i acc H' => TapeAt K H' tp sc ∧ ∃ ns : List Int, acc = ns.map V.int ∧ ns.length = i ∧ ∀ z ∈ ns, z = 0 ∨ z = 100 + e) wk_range (by decide) (fun b hb => by
      obtain ⟨_, _, _, _, z, _⟩ := t4.ex
      rw [List.mem_singleton] at hb
      rw [hb]
      exact ⟨_, z⟩) (fun _ _ => trivial) (fun D hD => ⟨t4.new hD, [], rfl, rfl, fun z h => by cases h⟩) (fun _ _ D _ _ hD r g => ⟨r.1.go g (by simpa using (t4.ntp hD).symm) (by simpa using (t4.nsc hD).symm), r.2⟩) ?_ ?_
    · rintro i x acc H5 hi rfl hl5 g5 ⟨t5, ns, rfl, hnl, hnz⟩ K1 K2 k1 k2
      refine ⟨rfl, _, rfl, 100, e, rfl, rfl, (by decide : 2 ≤ sizeLine), fun lm hlm => ?_⟩
      have t6 := t5.new (o := .lst [V.int 0, V.int (100 + e)]) hlm
      have g6 : Go [tp] H5 (upd H5 lm (.lst [V.int 0, V.int (100 + e)])) := Go.new hlm
      have l6 : upd H5 lm (.lst [V.int 0, V.int (100 + e)]) lm = some (.lst [V.int 0, V.int (100 + e)]) := upd_same
      have nlm := t5.ntp hlm
      refine ⟨_, rfl, rfl, tp, sc, 2, rfl, t6, by decide, by decide, fun r H7 g7 t7 r0 r1 => ?_⟩
      obtain ⟨y, hy, hyz⟩ : ∃ y : Int, [V.int 0, V.int (100 + e)][r.toNat]? = some (V.int y) ∧ (y = 0 ∨ y = 100 + e) := by
        have h3 : r = 0 ∨ r = 1 := by omega
        rcases h3 with rfl | rfl
        · exact ⟨0, rfl, .inl rfl⟩
        · exact ⟨100 + e, rfl, .inr rfl⟩
      refine ⟨lm, _, r, _, rfl, rfl, .inl (.inl (g7.fr _ _ l6 (by simpa using nlm))), atI_of r0 hy, ?_⟩
      refine k1 _ _ (g6.trans g7) ⟨t7, ns ++ [y], by rw [List.map_append] <;> rfl, by rw [List.length_append, hnl] <;> rfl, fun z hz => ?_⟩
      rcases List.mem_append.mp hz with hz | hz
      · exact hnz z hz
      · rw [List.mem_singleton] at hz
        rw [hz]
        exact hyz
    · rintro D acc H5 hD g5 hacc hl5 ⟨t5, ns, rfl, hnl, hnz⟩
      obtain ⟨y0, y1, y2, rfl⟩ : ∃ y0 y1 y2, ns = [y0, y1, y2] := by
        match ns, hnl with
        | [y0, y1, y2], _ => exact ⟨y0, y1, y2, rfl⟩
      refine ⟨D, _, rfl, .inl ⟨.inl (.inl hacc), fun s2 hs2 => ?_⟩⟩
      have t6 := t5.new (o := .tup ([y0, y1, y2].map V.int)) hs2
      have g6 : Go [tp] H5 (upd H5 s2 (.tup ([y0, y1, y2].map V.int))) := Go.new hs2
      have m6 : SqT K (upd H5 s2 (.tup ([y0, y1, y2].map V.int))) s2 ([y0, y1, y2].map V.int) := .inl (.inl upd_same)
      have g46 := g5.trans g6
      generalize upd H5 s2 (.tup ([y0, y1, y2].map V.int)) = H6 at t6 g6 m6 g46 ⊢
      refine ⟨s1, s2, _, _, rfl, rfl, g46.tup m4, m6, by simp, (show 4 + 3 ≤ sizeLine by decide), fun h => by simp at h, fun _ s3 hs3 => ?_⟩
      have t7 := t6.new (o := .tup ([x0, x1, x2, x3].map V.int ++ [y0, y1, y2].map V.int)) hs3
      have g7 : Go [tp] H6 (upd H6 s3 (.tup ([x0, x1, x2, x3].map V.int ++ [y0, y1, y2].map V.int))) := Go.new hs3
      have m7 : SqT K (upd H6 s3 (.tup ([x0, x1, x2, x3].map V.int ++ [y0, y1, y2].map V.int))) s3 ([x0, x1, x2, x3, y0, y1, y2].map V.int) := .inl (.inl upd_same)
      have g47 := g46.trans g7
      generalize upd H6 s3 (.tup ([x0, x1, x2, x3].map V.int ++ [y0, y1, y2].map V.int)) = H7 at t7 g7 m7 g47 ⊢
      have k7 : Go [tp, l] H2 H7 := (g3'.trans g4.lift).trans (g47.mono fun a h => by rw [List.mem_singleton] at h; rw [h]; exact List.mem_cons_self)
      refine ⟨_, rfl, _, rfl, aw, _, rfl, k7.tup haw, (show ¬ (HT.sIx 8 0 (some 7) = 0 ∧ HT.sIx 8 8 none = 8) by decide), fun s4 hs4 => ?_⟩
      have t8 := t7.new (o := .tup (cutV ([x0, x1, x2, x3, x4, x5', x6', x7'].map V.int) (some 7) none)) hs4
      have g8 : Go [tp] H7 (upd H7 s4 (.tup (cutV ([x0, x1, x2, x3, x4, x5', x6', x7'].map V.int) (some 7) none))) := Go.new hs4
      have m8 : SqT K (upd H7 s4 (.tup (cutV ([x0, x1, x2, x3, x4, x5', x6', x7'].map V.int) (some 7) none))) s4 ([x7'].map V.int) := .inl (.inl upd_same)
      have m8' := g8.tup m7
      have g48 := g47.trans g8
      generalize upd H7 s4 (.tup (cutV ([x0, x1, x2, x3, x4, x5', x6', x7'].map V.int) (some 7) none)) = H8 at t8 g8 m8 m8' g48 ⊢
      refine ⟨s3, s4, _, _, rfl, rfl, m8', m8, by simp, (show 7 + 1 ≤ sizeLine by decide), fun h => by simp at h, fun _ s5 hs5 => ?_⟩
      have t9 := t8.new (o := .tup ([x0, x1, x2, x3, y0, y1, y2].map V.int ++ [x7'].map V.int)) hs5
      have g9 : Go [tp] H8 (upd H8 s5 (.tup ([x0, x1, x2, x3, y0, y1, y2].map V.int ++ [x7'].map V.int))) := Go.new hs5
      have m9 : SqT K (upd H8 s5 (.tup ([x0, x1, x2, x3, y0, y1, y2].map V.int ++ [x7'].map V.int))) s5 ([x0, x1, x2, x3, y0, y1, y2, x7'].map V.int) := .inl (.inl upd_same)
      have g49 := g48.trans g9
      generalize upd H8 s5 (.tup ([x0, x1, x2, x3, y0, y1, y2].map V.int ++ [x7'].map V.int)) = H9 at t9 g9 m9 g49 ⊢
      have g39 : Go [tp] H3 H9 := g4.lift.trans g49
      have l9 := g39.fr _ _ l3 (by simpa using nl)
      refine ⟨_, rfl, .inl ⟨rfl, _, .inl (.inl l9)⟩, _, rfl, _, rfl, (by decide : 2 ≤ sizeLine), fun s6 hs6 => ?_⟩
      have tA := t9.new (o := .tup [V.int p, V.ref s5]) hs6
      have gA : Go [tp] H9 (upd H9 s6 (.tup [V.int p, V.ref s5])) := Go.new hs6
      have mA : SqT K (upd H9 s6 (.tup [V.int p, V.ref s5])) s6 [V.int p, V.ref s5] := .inl (.inl upd_same)
      have lA := gA.fr _ _ l9 (by simpa using nl)
      have g3A := g39.trans gA
      have mA9 := gA.tup m9
      generalize upd H9 s6 (.tup [V.int p, V.ref s5]) = HA at tA gA mA lA g3A mA9 ⊢
      have hxl : xs.length ≤ 2 := by
        have e1 := hp3.length
        have e2 := congrArg List.length hf3
        rw [List.length_map, List.length_map, List.length_take] at e2
        omega
      refine ⟨l, _, _, rfl, rfl, lA, lt_sl (by omega), ?_⟩
      have gl : Go [l] HA (upd HA l (.lst (xs ++ [V.ref s6]))) := Go.put List.mem_cons_self (by rw [lA]; trivial)
      refine ⟨_, _, _, _, xs ++ [V.ref s6], rws ++ [(p, [x0, x1, x2, x3, y0, y1, y2, x7'])], rfl, (g3.trans g3A).late hl0, ((g3'.trans (g3A.mono fun a h => by rw [List.mem_singleton] at h; rw [h]; exact List.mem_cons_self)).trans (gl.mono fun a h => by rw [List.mem_singleton] at h; rw [h]; simp)), tA.go gl (by simpa using nl.symm) (by simpa using nls.symm), upd_same,
        paired_app (Paired.mapP hp3 fun _ _ z => (RwV.go z g3A).go gl) (.cons ⟨.ref s5, ⟨s6, rfl, gl.tup mA⟩, ⟨s5, rfl, gl.tup mA9⟩⟩ .nil), ?_, ?_⟩
      · rw [List.map_append, hf3, List.take_add_one, hrow, List.map_append] <;> rfl
      · intro r hr2
        rcases List.mem_append.mp hr2 with hr2 | hr2
        · exact hc3 r hr2
        · rw [List.mem_singleton] at hr2
          rw [hr2]
          have w0 := hwr x0 (by simp)
          have w1 := hwr x1 (by simp)
          have w2 := hwr x2 (by simp)
          have w3 := hwr x3 (by simp)
          have w7 := hwr x7' (by simp)
          have z0 := hnz y0 (by simp)
          have z1 := hnz y1 (by simp)
          have z2 := hnz y2 (by simp)
          refine ⟨⟨rfl, fun x hx => ?_⟩, fun x hx => ?_⟩
          · simp only [List.mem_cons, List.not_mem_nil, or_false] at hx
            rcases hx with rfl | rfl | rfl | rfl | rfl | rfl | rfl | rfl <;> omega
          · simp only [List.drop_succ_cons, List.drop_zero, List.take_succ_cons, List.take_zero, List.mem_cons, List.not_mem_nil, or_false] at hx
            rcases hx with rfl | rfl | rfl
            · exact z0
            · exact z1
            · exact z2
  rintro σ H3 ⟨x5, x6, x7, x8, xs, rws, rfl, g3, g3', t3, l3, hp3, hf3, hc3⟩
  refine ⟨_, rfl, l, xs, rfl, .inl ⟨.inl (.inl l3), fun b hb => ⟨(by decide : 2 ≤ sizeLine), fun p hp => ?_⟩⟩⟩
  have ga : Go [tp] H3 (upd H3 b (.tup xs)) := Go.new hb
  have gp : Go [tp] (upd H3 b (.tup xs)) (upd (upd H3 b (.tup xs)) p (.tup [V.str "alter", V.ref b])) := Go.new hp
  have hf : rws.map Prod.fst = rows.map Prod.fst := by
    rw [hf3, List.take_of_length_le (by omega)]
  have hlen : rws.length = rows.length := by
    have := congrArg List.length hf
    simpa using this
  refine q _ (.alt rws) _ ((g3.trans ga).trans gp) ((t3.new hb).new hp) ⟨.ref b, ⟨p, rfl, .inl (.inl upd_same)⟩, xs, ⟨b, rfl, gp.tup (.inl (.inl upd_same))⟩, Paired.mapP hp3 fun _ _ z => (RwV.go z ga).go gp⟩ (fun b h => by cases h) (fun rows' h => ?_)
  injection h with h
  rw [← h]
  exact ⟨⟨by omega, by omega⟩, by rw [hf]; exact hnd, hc3⟩
end

end SH

set_option Elab.async false
set_option linter.all false
set_option maxRecDepth 100000
set_option maxHeartbeats 4000000
namespace SH
open PySem PySem.Spec PyProof.Rows L2
def sp_law_fits (K : PySem.W.Frag) : Sp := fun vs H Q _ => vs.length = 2 ∧ ∃ A n s L M C e, vs = [.ref A.bl, .int e] ∧ BlkAt K A H n s ∧ InvB n gdF s L M C ∧ Env e ∧ ∀ H', Go [] H H' → Q (.bl true) H'
section
variable {P : Program} {w : World} {K : PySem.W.Frag} {mg : Str → Option Value} {base : Heap}
theorem ok_law_fits (T : Txt w K mg) (c_law_clean : C8.Cal P w K mg base 1 "_law_clean" (sp_law_clean K) []) (c_Blocks_lasting_forest : C8.Met P w K mg base 5 (He.ga K "Blocks") "lasting_forest" (sp_Blocks_lasting_forest K) []) (c_Blocks_memory_forest : C8.Met P w K mg base 5 (He.ga K "Blocks") "memory_forest" (sp_Blocks_memory_forest K) []) (c_Blocks_request : C8.Met P w K mg base 11 (He.ga K "Blocks") "request" (sp_Blocks_request K) []) (c_Disk_words : C8.Met P w K mg base 1 (He.ga K "Disk") "words" (sp_Disk_words K) []) : C8.Cal P w K mg base 12 "_law_fits" (sp_law_fits K) [] := by
  refine cal_go T.f_law_fits T.o_law_fits sc_law_fits (fun _ _ _ _ _ _ us hl => match us, hl with | [_, _], _ => rfl) (fun _ _ _ _ h => h.1) fun cdv A outer s H vs Q E hr h => ?_
  refine ⟨_, (pss_cons (ps_for PassesOwn.never rfl (pi_keysL (C8.pe_mt c_Blocks_memory_forest hr (by decide) (pv 0) (pa_cons (pv 1) pa_nil))) (pg_name (i := 2) sc_law_fits.nd rfl (by first | exact Or.inl rfl | exact Or.inr rfl)) (pss_cons (ps_set (i := 3) sc_law_fits.nd rfl (by first | exact Or.inl rfl | exact Or.inr rfl) (C8.pe_mt c_Blocks_request hr (by decide) (pv 0) (pa_cons (pv 1) (pa_cons (pe_tup (pa_cons pe_str (pa_cons (pv 2) pa_nil))) pa_nil))))
    (pss_one (ps_if (PW.pt (pw_and (pt_cmpR op_eq (pe_ix (show IxR _ (rIxT K) from ix_tup) (pv 3) pe_int (fun _ _ => rfl)) pe_str (nomark _)) (pw_and1 (pt_not (pt_val (C8.pe_c c_law_clean hr (by decide) (by rfl) (pa_cons (pe_ix (show IxR _ (rIxT K) from ix_tup) (pv 3) pe_int (fun _ _ => rfl)) (pa_cons (pv 1) pa_nil)))))))) (pss_one (ps_ret pe_bl)) pss_nil))))
    (pss_cons (ps_for PassesOwn.never rfl (pi_keysL (C8.pe_mt c_Blocks_lasting_forest hr (by decide) (pv 0) (pa_cons (pv 1) pa_nil))) (pg_name (i := 2) sc_law_fits.nd rfl (by first | exact Or.inl rfl | exact Or.inr rfl)) (pss_one (ps_if (pt_not (pt_val (C8.pe_c c_law_clean hr (by decide) (by rfl) (pa_cons (C8.pe_mt c_Disk_words hr (by decide) (pe_fldK K rfl (pv 0) rfl) (pa_cons (pv 2) pa_nil)) (pa_cons (pv 1) pa_nil))))) (pss_one (ps_ret pe_bl)) pss_nil)))
    (pss_one (ps_ret pe_bl)))), ?_⟩
  obtain ⟨_, A, n, s, L, M, C, e, rfl, B, I, he, q⟩ := h
  have bk : ∀ {H' : Hp}, Go [] H H' → BlkAt K A H' n s := fun {H'} g => B.go g
  refine ⟨_, rfl, A.bl, _, _, rfl, B.ins, rfl, _, rfl, rfl, A, n, s, e, rfl, B, I.bas, he, fun v H1 g1 hf => ?_⟩
  obtain ⟨p, kvs, rfl, hp0, hp1, hm1, hr1⟩ := hf.is (I.mf e he)
  refine ⟨p, kvs, rfl, hp1, fun od => ?_⟩
  refine for_it wk_keys (fun i σ H' => ∃ x2 x3, σ = [some (.ref A.bl), some (.int e), x2, x3] ∧ Go [] H H' ∧ H' p = some (.frz od (.dK kvs))) ⟨_, _, rfl, g1.late hp0, upd_same⟩ (fun i σ H' _ p => by obtain ⟨_, _, _, _, h⟩ := p; exact h) ?_ ?_
  · rintro i x σ H0 H3 hi ⟨x2, x3, rfl, g3, hp3⟩ ⟨rfl, k, v, hkv, rfl⟩
    obtain ⟨c, y, rfl, hc, _⟩ := hm1.at hkv
    refine ⟨_, rfl, A.bl, _, _, rfl, (bk g3).ins, rfl, _, rfl, _, rfl, (by decide : 2 ≤ sizeLine), fun t ht => ?_⟩
    have hrq : SqT K (upd H3 t (.tup [V.str "words", kV (Sum.inl c)])) t [V.str "words", V.int c] := .inl (.inl upd_same)
    have g4 : Go [] H3 (upd H3 t (.tup [V.str "words", kV (Sum.inl c)])) := Go.new ht
    generalize upd H3 t (.tup [V.str "words", kV (Sum.inl c)]) = H4 at g4 hrq ⊢
    refine ⟨rfl, A, n, s, L, M, C, e, _, .wds c, rfl, bk (g3.trans g4), I, he, ⟨t, rfl, hrq⟩, .inl ⟨c, rfl, fun v5 H5 g5 hw => ?_⟩⟩
    have g35 := g4.trans g5
    rcases hw with ⟨w, u, hbu, ⟨a, rfl, ha⟩, hu⟩ | ⟨a, rfl, ha⟩
    · refine ⟨_, rfl, a, _, 0, _, rfl, rfl, ha, at0, rfl, true, rfl, ?_⟩
      refine ⟨_, rfl, a, _, 1, _, rfl, rfl, ha, at1, _, rfl, rfl, u, e, w, rfl, hu, (I.bas.buf c e w hbu).2.2.2.1, (I.bufs c e w hbu).1, fun H6 g6 => ⟨true, rfl, ?_⟩⟩
      exact ⟨_, _, rfl, (g3.trans g35).trans g6, (g35.trans g6).at hp3⟩
    · refine ⟨_, rfl, a, _, 0, _, rfl, rfl, ha, at0, rfl, false, rfl, ?_⟩
      exact ⟨_, _, rfl, g3.trans g35, g35.at hp3⟩
  rintro σ H2 ⟨x2, x3, rfl, g2, hp2⟩
  refine ⟨_, rfl, A.bl, _, _, rfl, (bk g2).ins, rfl, _, rfl, rfl, A, n, s, e, rfl, bk g2, I.bas, he, fun v H3 g3 hf => ?_⟩
  obtain ⟨p2, kvs2, rfl, hp20, hp21, hm2, hr2⟩ := hf.is (I.lf e he)
  refine ⟨p2, kvs2, rfl, hp21, fun od => ?_⟩
  refine for_it wk_keys (fun i σ H' => ∃ x2, σ = [some (.ref A.bl), some (.int e), x2, x3] ∧ Go [] H H' ∧ H' p2 = some (.frz od (.dK kvs2))) ⟨_, rfl, g2.trans (g3.late hp20), upd_same⟩ (fun i σ H' _ p => by obtain ⟨_, _, _, h⟩ := p; exact h) ?_ ?_
  · rintro i x σ H0 H4 hi ⟨x2, rfl, g4, hp4⟩ ⟨rfl, k, v, hkv, rfl⟩
    obtain ⟨c, y, rfl, hc, _⟩ := hm2.at hkv
    have hcr := hr2 c y hc
    have B4 := bk g4
    refine ⟨_, rfl, _, _, _, _, _, rfl, B4.ins, T.k_Blocks, T.na_Blocks_disk, rfl, A.dk, _, _, rfl, B4.disk.ins, rfl, _, rfl, rfl, A.dk, A.dxd, A.he, A.wa, n, s.held, s.queue, c, rfl, B4.disk, hcr, fun v hv => ?_⟩
    refine ⟨_, rfl, rfl, v, e, s.held c, rfl, hv, (I.bas.held c hcr.1 hcr.2).1, I.clean e c he (.inl ⟨y, hc⟩) (I.lfresh e c y he hc), fun H6 g6 => ⟨true, rfl, ?_⟩⟩
    exact ⟨_, rfl, g4.trans g6, g6.at hp4⟩
  rintro σ H4 ⟨x2, rfl, g4, hp4⟩
  exact q _ g4
end

end SH

set_option Elab.async false
set_option linter.all false
set_option maxRecDepth 100000
set_option maxHeartbeats 4000000
namespace SH
open PySem PySem.Spec PyProof.Rows L2
theorem cut_val : ∀ (q : List Op) (held : Int → Wd) (cs : List Bool) (x : Int), cutH held q cs x = held x ∨ ∃ w e, Op.wr x w e ∈ q ∧ cutH held q cs x = w
  | [], held, cs, x => .inl rfl
  | .rd b e :: r, held, c :: cs, x => (cut_val r held cs x).imp id fun ⟨w, e, h1, h2⟩ => ⟨w, e, List.mem_cons_of_mem _ h1, h2⟩
  | .rd b e :: r, held, [], x => (cut_val r held [] x).imp id fun ⟨w, e, h1, h2⟩ => ⟨w, e, List.mem_cons_of_mem _ h1, h2⟩
  | .wr b w e :: r, held, [], x => (cut_val r held [] x).imp id fun ⟨w, e, h1, h2⟩ => ⟨w, e, List.mem_cons_of_mem _ h1, h2⟩
  | .wr b w e :: r, held, c :: cs, x => by
    show cutH (if c = true then setW held b w else held) r cs x = held x ∨ ∃ w' e', Op.wr x w' e' ∈ .wr b w e :: r ∧ cutH (if c = true then setW held b w else held) r cs x = w'
    rcases cut_val r (if c = true then setW held b w else held) cs x with h | ⟨w', e', h1, h2⟩
    · by_cases hc : c = true
      · rw [if_pos hc] at h ⊢
        by_cases hx : x = b
        · subst hx
          rw [setW_same] at h
          exact .inr ⟨w, e, List.mem_cons_self, h⟩
        · rw [setW_ne hx] at h
          exact .inl h
      · rw [if_neg hc] at h ⊢
        exact .inl h
    · exact .inr ⟨w', e', List.mem_cons_of_mem _ h1, h2⟩
structure LK (K : PySem.W.Frag) (tp sc sh ty bl : Addr) (n : Int) (H : Hp) : Prop where
  ex : ∃ (A : Ad) (s : St) (L M C : Int → Mp), BlkAt K A H n s ∧ InvB n gdF s L M C ∧ A.ty = ty ∧ A.bl = bl ∧ tp ∉ A.all ∧ sc ∉ A.all ∧ sh ∉ A.all
  t : TapeAt K H tp sc
  s : H sh = some (.lst [.int 5, .int 5, .int 5, .int 5])
  ne : sh ≠ tp
section
variable {K : PySem.W.Frag} {tp sc sh ty bl : Addr} {n : Int} {H H' : Hp} {A : Ad} {s : St} {L M C : Int → Mp}
theorem mut_all : ∀ a ∈ A.mut, a ∈ A.all := by
  intro a h
  simp only [Ad.mut, Ad.all, List.mem_cons, List.not_mem_nil, or_false] at h ⊢
  rcases h with rfl | rfl | rfl | rfl | rfl <;> simp
theorem LK.tape (h : LK K tp sc sh ty bl n H) (g : Go [tp] H H') (t : TapeAt K H' tp sc) : LK K tp sc sh ty bl n H' := by
  obtain ⟨A, s, L, M, C, B, I, e1, e2, a1, a2, a3⟩ := h.ex
  exact ⟨⟨A, s, L, M, C, B.goZ g (fun a ha => by
    simp only [List.mem_singleton]
    intro z
    rw [z] at ha
    exact a1 ha), I, e1, e2, a1, a2, a3⟩, t, g.fr _ _ h.s (by simpa using h.ne), h.ne⟩
theorem LK.go0 (h : LK K tp sc sh ty bl n H) (g : Go [] H H') : LK K tp sc sh ty bl n H' := h.tape g.lift (h.t.go g (by simp) (by simp))
theorem LK.aft (h : LK K tp sc sh ty A.bl n H) (e1 : A.ty = ty) (a1 : tp ∉ A.all) (a2 : sc ∉ A.all) (a3 : sh ∉ A.all) (a : After K A n H H') : LK K tp sc sh ty A.bl n H' := by
  obtain ⟨g, s', L', M', C', B, I⟩ := a
  exact ⟨⟨A, s', L', M', C', B, I, e1, rfl, a1, a2, a3⟩, h.t.go g (fun z => a1 (mut_all _ z)) (fun z => a2 (mut_all _ z)), g.fr _ _ h.s (fun z => a3 (mut_all _ z)), h.ne⟩
theorem ne_bl_dk (B : BlkAt K A H n s) : A.bl ≠ A.dk := fun z => by
  have h := B.ins
  rw [z, B.disk.ins] at h
  injection h with h
  injection h with _ _ h
  injection h with h
  injection h with h
  exact absurd h (by decide)
theorem ne_ty_dk (B : BlkAt K A H n s) : A.ty ≠ A.dk := fun z => by
  obtain ⟨ms, T⟩ := B.types
  have h := T.ins
  rw [z, B.disk.ins] at h
  injection h with h
  injection h with _ _ h
  injection h with _ h
  injection h with h
  injection h with h
  exact absurd h (by decide)
theorem ne_lst {x y : Addr} {c d : Addr} {fs : List (Str × V)} {l : List V} (h1 : H x = some (.ins c d fs)) (h2 : H y = some (.lst l)) : x ≠ y := fun z => by
  rw [z, h2] at h1
  cases h1
theorem LK.of {Hs : Hp} {oa ob oc : HO} (B : BlkAt K A H n s) (I : InvB n gdF s L M C) (h1 : Hs tp = some oa) (h2 : Hs sc = some ob) (h3 : Hs sh = some oc) (hA : ∀ a ∈ A.all, Hs a = none ∨ (a ≠ tp ∧ a ≠ sc ∧ a ≠ sh)) (t : TapeAt K H tp sc) (hs : H sh = some (.lst [.int 5, .int 5, .int 5, .int 5])) (ne : sh ≠ tp) : LK K tp sc sh A.ty A.bl n H :=
  ⟨⟨A, s, L, M, C, B, I, rfl, rfl, fun h => by
    rcases hA _ h with z | z
    · rw [h1] at z; cases z
    · exact z.1 rfl, fun h => by
    rcases hA _ h with z | z
    · rw [h2] at z; cases z
    · exact z.2.1 rfl, fun h => by
    rcases hA _ h with z | z
    · rw [h3] at z; cases z
    · exact z.2.2 rfl⟩, t, hs, ne⟩
theorem nodup4 {a b c d : Addr} (h1 : a ≠ b) (h2 : a ≠ c) (h3 : a ≠ d) (h4 : b ≠ c) (h5 : b ≠ d) (h6 : c ≠ d) : [a, b, c, d].Nodup := by simp [h1, h2, h3, h4, h5, h6]
end
def sp_law (K : PySem.W.Frag) : Sp := fun vs H Q _ => vs.length = 1 ∧ ∃ a, ∃ ns : List Int, vs = [.ref a] ∧ SqL K H a (ns.map V.int) ∧ ∀ H', Q (.bl true) H'
section
variable {P : Program} {w : World} {K : PySem.W.Frag} {mg : Str → Option Value} {base : Heap}
theorem ok_law {fd : FuncData} (F : FunD K "law" "law" (defArgs s_law) (defBody s_law) (defScope s_law) [] [] (He.fAd K ("law", none)) fd) (T : Txt w K mg) (c_law_fits : C8.Cal P w K mg base 12 "_law_fits" (sp_law_fits K) []) (c_law_marked : C8.Cal P w K mg base 14 "_law_marked" (sp_law_marked K) []) (c_law_next : C8.Cal P w K mg base 1 "_law_next" (sp_law_next K) []) (c_law_types : C8.Cal P w K mg base 7 "_law_types" (sp_law_types K) []) (c_disk_from : C8.Cal P w K mg base 4 "disk_from" (sp_disk_from K) []) (c_Blocks_do : C8.Met P w K mg base 6 (He.ga K "Blocks") "do" (sp_Blocks_do K) []) (c_Blocks_request : C8.Met P w K mg base 11 (He.ga K "Blocks") "request" (sp_Blocks_request K) []) (c_Disk_cut : C8.Met P w K mg base 1 (He.ga K "Disk") "cut" (sp_Disk_cut K) []) (c_Disk_image : C8.Met P w K mg base 1 (He.ga K "Disk") "image" (sp_Disk_image K) []) (c_Blocks_init : C8.Mak P w K mg base 6 "Blocks" (He.ga K "Blocks") (sp_Blocksinit K) []) (c_Disk_init : C8.Mak P w K mg base 2 "Disk" (He.ga K "Disk") (sp_Diskinit K) []) : FnOk P w K mg base C8.CX0 15 (He.fAd K ("law", none)) fd ["_law_script"] (sp_law K) := by
  refine fn_go F sc_law (fun _ _ _ _ h => h.1) fun cdv A outer s H vs Q E hr h => ?_
  refine ⟨_, (pss_cons (ps_set (i := 1) sc_law.nd rfl (by first | exact Or.inl rfl | exact Or.inr rfl) (pe_lst (pa_cons (pe_callTy call_list_of (by rfl) T.b_list (by decide +kernel) (pa_cons (pv 0) pa_nil)) (pa_cons pe_int (pa_cons pe_int (pa_cons pe_int pa_nil))))))
    (pss_cons (ps_set (i := 2) sc_law.nd rfl (by first | exact Or.inl rfl | exact Or.inr rfl) (pe_op op_add pe_int (C8.pe_c c_law_next hr (by decide) (by rfl) (pa_cons (pv 1) (pa_cons pe_int pa_nil)))))
    (pss_cons (ps_set (i := 3) sc_law.nd rfl (by first | exact Or.inl rfl | exact Or.inr rfl) (pe_lst (pa_cons pe_int (pa_cons pe_int (pa_cons pe_int (pa_cons pe_int pa_nil))))))
    (pss_cons (ps_set (i := 4) sc_law.nd rfl (by first | exact Or.inl rfl | exact Or.inr rfl) (C8.pe_c c_law_types hr (by decide) (by rfl) (pa_cons (pv 2) pa_nil)))
    (pss_cons (ps_set (i := 5) sc_law.nd rfl (by first | exact Or.inl rfl | exact Or.inr rfl) (C8.pe_mk c_Blocks_init hr (by decide) (by rfl) (pa_cons (C8.pe_mk c_Disk_init hr (by decide) (by rfl) (pa_cons (pv 2) pa_nil)) (pa_cons (pe_callTy call_list_of (by rfl) T.b_list (by decide +kernel) (pa_cons (pv 3) pa_nil)) (pa_cons (pv 4) pa_nil)))))
    (pss_cons (ps_set (i := 6) sc_law.nd rfl (by first | exact Or.inl rfl | exact Or.inr rfl) pe_int)
    (pss_cons (ps_for PassesOwn.never rfl (pi_range1 (by rfl) T.b_range (pa_cons (C8.pe_c c_law_next hr (by decide) (by rfl) (pa_cons (pv 1) (pa_cons (pe_ix (show IxR _ (rIxL K) from ix_list) (pe_lst (pa_cons pe_int (pa_cons pe_int (pa_cons pe_int (pa_cons pe_int pa_nil))))) (pe_op op_mod (pe_callB (show CallR _ _ (rLen K) from call_len) (by rfl) T.b_len PySem.boot_len (pa_cons (pv 0) pa_nil)) pe_int) (fun _ _ => rfl)) pa_nil))) pa_nil)) (pg_name (i := 7) sc_law.nd rfl (by first | exact Or.inl rfl | exact Or.inr rfl)) (pss_cons (ps_if (pt_cmpR op_eq (C8.pe_c c_law_next hr (by decide) (by rfl) (pa_cons (pv 1) (pa_cons pe_int pa_nil))) pe_int (nomark _)) (pss_one (ps_set (i := 6) sc_law.nd rfl (by first | exact Or.inl rfl | exact Or.inr rfl) (C8.pe_c c_law_next hr (by decide) (by rfl) (pa_cons (pv 1) (pa_cons pe_int pa_nil))))) pss_nil)
    (pss_cons (ps_set (i := 8) sc_law.nd rfl (by first | exact Or.inl rfl | exact Or.inr rfl) (C8.pe_c c_law_next hr (by decide) (by rfl) (pa_cons (pv 1) (pa_cons pe_int pa_nil))))
    (pss_cons (ps_if (pt_cmpR op_lt (pv 8) pe_int (nomark _)) (pss_one (ps_expr (C8.pe_mt c_Blocks_do hr (by decide) (pv 5) (pa_cons (C8.pe_c c_law_next hr (by decide) (by rfl) (pa_cons (pv 1) (pa_cons pe_int pa_nil))) pa_nil)))) (pss_one (ps_if (PW.pt (pw_and (pt_cmpR op_eq (pv 8) pe_int (nomark _)) (pw_and1 (pt_cmpR op_eq (C8.pe_c c_law_next hr (by decide) (by rfl) (pa_cons (pv 1) (pa_cons pe_int pa_nil))) pe_int (nomark _))))) (pss_cons (ps_expr (C8.pe_mt c_Disk_cut hr (by decide) (pe_fldK K rfl (pv 5) rfl) (pa_cons (pe_lc (own := [("_law_k", 10)]) rfl sc_law.nd (pi_range1 (by rfl) T.b_range (pa_cons pe_int pa_nil)) (blkOk_by (own := [("_law_k", 10)]) (N := n_law) (sc := defScope s_law) (by decide +kernel)) (fun _ _ _ _ _ => (pg_name (i := 10) sc_law.nd rfl (by first | exact Or.inl rfl | exact Or.inr rfl))) (fun _ _ _ _ _ => pts_nil) (fun _ _ _ _ _ => (C8.pe_c c_law_next hr (by decide) (by rfl) (pa_cons (pv 1) (pa_cons pe_int pa_nil))))) pa_nil)))
    (pss_one (ps_set (i := 5) sc_law.nd rfl (by first | exact Or.inl rfl | exact Or.inr rfl) (C8.pe_mk c_Blocks_init hr (by decide) (by rfl) (pa_cons (C8.pe_c c_disk_from hr (by decide) (by rfl) (pa_cons (C8.pe_mt0 c_Disk_image hr (by decide) (pe_fldK K rfl (pv 5) rfl)) pa_nil)) (pa_cons (pe_callTy call_list_of (by rfl) T.b_list (by decide +kernel) (pa_cons (pv 3) pa_nil)) (pa_cons (pv 4) pa_nil))))))) (pss_one (ps_expr (C8.pe_mt c_Blocks_request hr (by decide) (pv 5) (pa_cons (pv 6) (pa_cons (C8.pe_c c_law_marked hr (by decide) (by rfl) (pa_cons (pv 1) (pa_cons (pv 5) (pa_cons (pv 6) pa_nil)))) pa_nil))))))))
    (pss_one (ps_if (pt_cmpR op_eq (pe_op op_mod (pv 7) pe_int) pe_int (nomark _)) (pss_one (ps_for PassesOwn.never rfl (pi_range1 (by rfl) T.b_range (pa_cons pe_int pa_nil)) (pg_name (i := 9) sc_law.nd rfl (by first | exact Or.inl rfl | exact Or.inr rfl)) (pss_one (ps_if (pt_not (pt_val (C8.pe_c c_law_fits hr (by decide) (by rfl) (pa_cons (pv 5) (pa_cons (pv 9) pa_nil))))) (pss_one (ps_ret pe_bl)) pss_nil)))) pss_nil))))))
    (pss_one (ps_ret pe_bl))))))))), ?_⟩
  obtain ⟨_, a, ns, rfl, ha, q⟩ := h
  refine ⟨_, rfl, a, _, rfl, .inl ha, fun sc hsc => ⟨(by decide : 4 ≤ sizeLine), fun tp htp => ?_⟩⟩
  have g1 : Go [] H (upd (upd H sc (.lst (ns.map V.int))) tp (.lst [.ref sc, .int 0, .int 0, .int 9])) := (Go.new hsc).trans (Go.new htp)
  have ntp : sc ≠ tp := ne_of_none (H := upd H sc (.lst (ns.map V.int))) upd_same htp
  have t1 : TapeAt K (upd (upd H sc (.lst (ns.map V.int))) tp (.lst [.ref sc, .int 0, .int 0, .int 9])) tp sc := ⟨ns, 0, 0, 9, upd_same, by rw [upd_ne ntp, upd_same], ntp, by decide, by decide, by decide, by decide⟩
  have htp0 : H tp = none := (Go.new (Z := []) hsc).free htp
  generalize upd (upd H sc (.lst (ns.map V.int))) tp (.lst [.ref sc, .int 0, .int 0, .int 9]) = H1 at g1 t1 ⊢
  refine ⟨_, rfl, rfl, tp, sc, 4, rfl, t1, by decide, by decide, fun r H2 g2 t2 r0 r1 => ⟨24, r, rfl, rfl, ?_⟩⟩
  obtain ⟨n, hn⟩ : ∃ n, n = 24 + r := ⟨_, rfl⟩
  dsimp only
  rw [← hn]
  refine ⟨(by decide : 4 ≤ sizeLine), fun sh hsh => ?_⟩
  have g3 : Go [] H2 (upd H2 sh (.lst [.int 5, .int 5, .int 5, .int 5])) := Go.new hsh
  have t3 := t2.new (o := .lst [.int 5, .int 5, .int 5, .int 5]) hsh
  have h3 : upd H2 sh (.lst [.int 5, .int 5, .int 5, .int 5]) sh = some (.lst [.int 5, .int 5, .int 5, .int 5]) := upd_same
  have nsh := t2.ntp hsh
  have gs3 : Go [tp] H (upd H2 sh (.lst [.int 5, .int 5, .int 5, .int 5])) := (g1.lift.trans g2).trans g3.lift
  generalize upd H2 sh (.lst [.int 5, .int 5, .int 5, .int 5]) = H3 at g3 t3 h3 gs3 ⊢
  refine ⟨_, rfl, rfl, n, rfl, fun H4 ty dxt kn mk ms g4 hty hkn hmk T4 => ?_⟩
  refine ⟨_, rfl, fun dk dxd hdk hdxd nd => ⟨rfl, dk, dxd, n, rfl, upd_same, ⟨by omega, by omega⟩, fun H6 he wa g6 hhe hwa D6 => ⟨rfl, ?_⟩⟩⟩
  have g5 : Go [] H4 (upd (upd H4 dxd (.own dk)) dk (.ins (He.ga K "Disk") dxd [])) := (Go.new hdxd).trans (Go.new (by rw [upd_ne nd.symm]; exact hdk))
  have g46 : Go [] H4 H6 := Go.drop1 g5 g6 hdk
  obtain ⟨kl, hkl, _⟩ := T4.knL
  have hml := T4.mkL
  have nhk : he ≠ kn := (ne_of_none (g5.at hkl) hhe).symm
  have nhm : he ≠ mk := (ne_of_none (g5.at hml) hhe).symm
  have nwk : wa ≠ kn := (ne_of_none (g5.at hkl) hwa).symm
  have nwm : wa ≠ mk := (ne_of_none (g5.at hml) hwa).symm
  have g36 := g4.trans g46
  refine ⟨_, rfl, sh, _, rfl, .inl (.inl (.inl (g36.at h3))), fun s2 hs2 => ?_⟩
  have g67 : Go [] H6 (upd H6 s2 (.lst [.int 5, .int 5, .int 5, .int 5])) := Go.new hs2
  have h7 : upd H6 s2 (.lst [.int 5, .int 5, .int 5, .int 5]) s2 = some (.lst [.int 5, .int 5, .int 5, .int 5]) := upd_same
  generalize upd H6 s2 (.lst [.int 5, .int 5, .int 5, .int 5]) = H7 at g67 h7 ⊢
  refine ⟨_, rfl, fun x dx hx hdx nd2 => ?_⟩
  have g78 : Go [] H7 (upd (upd H7 dx (.own x)) x (.ins (He.ga K "Blocks") dx [])) := (Go.new hdx).trans (Go.new (by rw [upd_ne nd2.symm]; exact hx))
  have h8x : upd (upd H7 dx (.own x)) x (.ins (He.ga K "Blocks") dx []) x = some (.ins (He.ga K "Blocks") dx []) := upd_same
  have D7 := D6.go g67 (by simp)
  have T7 := (T4.go g46 (by simp)).go g67 (by simp)
  have g37 := g36.trans g67
  generalize upd (upd H7 dx (.own x)) x (.ins (He.ga K "Blocks") dx []) = H8 at g78 h8x ⊢
  have g38 := g37.trans g78
  refine ⟨rfl, x, dx, dk, dxd, he, wa, s2, ty, dxt, kn, mk, n, fun _ => zer, ms, fun e => put e0 e (none, some 1), rfl, h8x, D7.go g78 (by simp), g78.at h7, T7.go g78 (by simp), nodup4 D6.ne nhk nhm nwk nwm T4.ne, start_zer (by omega) (fun _ _ _ => rfl), fun b _ _ => ⟨rfl, (by decide : ∀ x ∈ zer, 0 ≤ x ∧ x ≤ 4294967295)⟩, (ne_of_none D7.ins hx).symm, (ne_of_none T7.ins hx).symm, fun H9 s3 bu ke fr f g9 hs3 hbu hke hfr B9 hf => ⟨rfl, ?_⟩⟩
  have g79 : Go [] H7 H9 := Go.drop1 g78 g9 hx
  have g39 := g37.trans g79
  have I9 : InvB n gdF (s0 (fun _ => zer) f) (fun e => put e0 e (none, some 1)) (fun e => put e0 e (none, some 1)) fun _ => e0 := InvB.zero (gd := gdF) (by omega) (W := fun _ => zer) (fun _ _ _ => rfl) _ rfl rfl rfl rfl hf
  have lk : LK K tp sc sh ty x n H9 := by
    obtain ⟨_, _, _, _, z1, z2, _⟩ := t3.ex
    refine LK.of (A := ⟨x, dx, dk, dxd, ty, dxt, he, wa, s3, kn, mk, bu, ke, fr⟩) (Hs := H3) B9 I9 z1 z2 h3 ?_ (t3.go g39 (by simp) (by simp)) (g39.at h3) nsh
    simp only [Ad.all, List.mem_cons, List.not_mem_nil, or_false]
    rintro a (rfl | rfl | rfl | rfl | rfl | rfl | rfl | rfl | rfl | rfl | rfl)
    · exact .inl (g37.free hx)
    · exact .inl (g4.free hdk)
    · exact .inl ((g4.trans g5).free hhe)
    · exact .inl ((g4.trans g5).free hwa)
    · exact .inl hty
    · exact .inl hkn
    · exact .inl hmk
    · exact .inl (g38.free hs3)
    · exact .inl (g38.free hbu)
    · exact .inl (g38.free hke)
    · exact .inl (g38.free hfr)
  have ha9 : SqL K H9 a (ns.map V.int) := ((Go.drop1 Go.refl gs3 htp0).trans g39).seq ha (by simp)
  have hn1 : 24 ≤ n := by omega
  have hn2 : n ≤ 64 := by omega
  clear hf I9 B9 D7 T7 D6 T4 g46 g5 g6
  refine gName_i ?_
  obtain ⟨m, hm, m0, m1⟩ : ∃ m : Int, [V.int 60, V.int 60, V.int 60, V.int 150][((ns.length : Int) % 4).toNat]? = some (V.int m) ∧ 0 < m ∧ m ≤ 150 := by
    have h4 : (ns.length : Int) % 4 = 0 ∨ (ns.length : Int) % 4 = 1 ∨ (ns.length : Int) % 4 = 2 ∨ (ns.length : Int) % 4 = 3 := by omega
    rcases h4 with h | h | h | h <;> rw [h] <;> exact ⟨_, rfl, by decide, by decide⟩
  refine ⟨_, rfl, (by decide : 4 ≤ sizeLine), fun lm hlm => ?_⟩
  have gL : Go [] H9 (upd H9 lm (.lst [V.int 60, V.int 60, V.int 60, V.int 150])) := Go.new hlm
  have lkL := lk.go0 gL
  refine ⟨_, rfl, _, ns.length, rfl, .inl ⟨_, gL.seq ha9 (by simp), by rw [List.length_map]⟩, _, 4, rfl, rfl, (by decide : (0 : Int) < 4), lm, _, _, _, rfl, rfl, .inl (.inl upd_same), atI_of (by omega) hm, rfl, tp, sc, m, rfl, lkL.t, m0, by omega, fun r2 HA gA tA r20 r21 => ⟨r2, rfl, by omega, by omega, ?_⟩⟩
  have lkA := lkL.tape gA tA
  clear hlm gL lkL lk ha9 gA tA
  refine for_it wk_range (fun i σ H' => ∃ bl e x7 x8 x9 x10, σ = [some (.ref a), some (.ref tp), some (.int n), some (.ref sh), some (.ref ty), some (.ref bl), some (.int e), x7, x8, x9, x10] ∧ Env e ∧ LK K tp sc sh ty bl n H') ⟨_, _, _, _, _, _, rfl, ⟨by decide, by decide⟩, lkA⟩ (fun _ _ _ _ _ => trivial) ?_ ?_
  · rintro i x7 σ H0 H1 hi ⟨bl, e, x7', x8, x9, x10, rfl, he, lk⟩ ⟨rfl, rfl⟩
    refine gName_i ?_
    dsimp only
    refine seq_by (fun σ H' => ∃ e, σ = [some (.ref a), some (.ref tp), some (.int n), some (.ref sh), some (.ref ty), some (.ref bl), some (.int e), some (.int (0 + (i : Int))), x8, x9, x10] ∧ Env e ∧ LK K tp sc sh ty bl n H') (fun N hN => ?_) ?_
    · refine ⟨_, rfl, rfl, tp, sc, 6, rfl, lk.t, by decide, by decide, fun r H2 g2 t2 r0 r1 => ⟨rfl, _, rfl, ?_⟩⟩
      have lk2 := lk.tape g2 t2
      rw [dec_int]
      by_cases hr0 : r = 0
      · rw [hr0, beq_self_eq_true]
        refine ⟨_, rfl, rfl, tp, sc, 4, rfl, lk2.t, by decide, by decide, fun e' H3 g3 t3 r0 r1 => ?_⟩
        exact hN _ _ ⟨e', rfl, ⟨r0, r1⟩, lk2.tape g3 t3⟩
      · rw [beq_eq_false_iff_ne.mpr hr0]
        exact hN _ _ ⟨e, rfl, he, lk2⟩
    clear lk he e
    rintro σ H2 ⟨e, rfl, he, lk⟩
    refine ⟨_, rfl, rfl, tp, sc, 24, rfl, lk.t, by decide, by decide, fun k H3 g3 t3 k0 k1 => ?_⟩
    have lk3 := lk.tape g3 t3
    clear g3 t3 lk
    refine gName_i ?_
    dsimp only
    refine seq_by (fun σ H' => ∃ bl x10, σ = [some (.ref a), some (.ref tp), some (.int n), some (.ref sh), some (.ref ty), some (.ref bl), some (.int e), some (.int (0 + (i : Int))), some (.int k), x9, x10] ∧ LK K tp sc sh ty bl n H') (fun N hN => ?_) ?_
    · obtain ⟨A, s, L, M, C, B, I, e1, rfl, a1, a2, a3⟩ := lk3.ex
      have bk : ∀ {H' : Hp}, Go [tp] H3 H' → BlkAt K A H' n s := fun {H'} g => B.goZ g fun a ha => by
        simp only [List.mem_singleton]
        intro z
        rw [z] at ha
        exact a1 ha
      refine ⟨_, rfl, k, 8, rfl, rfl, _, rfl, ?_⟩
      by_cases h8 : k < 8
      · rw [decide_eq_true h8]
        refine ⟨_, rfl, A.bl, _, _, rfl, B.ins, rfl, _, rfl, rfl, tp, sc, 4, rfl, lk3.t, by decide, by decide, fun r H4 g4 t4 r0 r1 => ?_⟩
        refine ⟨rfl, A, n, s, L, M, C, r, rfl, bk g4, I, r0, r1, fun v H5 aft => ?_⟩
        exact hN _ _ ⟨_, _, rfl, (lk3.tape g4 t4).aft e1 a1 a2 a3 aft⟩
      · rw [decide_eq_false h8]
        have req : ∀ {D : Ends} {H4 : Hp}, (∀ H5, LK K tp sc sh ty A.bl n H5 → D.nx [some (.ref a), some (.ref tp), some (.int n), some (.ref sh), some (.ref ty), some (.ref A.bl), some (.int e), some (.int (0 + (i : Int))), some (.int k), x9, x10] H5) → Go [tp] H3 H4 → TapeAt K H4 tp sc →
            tDrop (tMeth (He.ga K "Blocks") "request" (sp_Blocks_request K) [] C8.E0 (tVar 5) (tCons (tVar 6) (tCons (tCall (sp_law_marked K) [] C8.E0 (tCons (tVar 1) (tCons (tVar 5) (tCons (tVar 6) tNil)))) tNil))) D
              [some (.ref a), some (.ref tp), some (.int n), some (.ref sh), some (.ref ty), some (.ref A.bl), some (.int e), some (.int (0 + (i : Int))), some (.int k), x9, x10] H4 := fun {D H4} hD g4 t4 => by
          refine ⟨_, rfl, A.bl, _, _, rfl, (bk g4).ins, rfl, _, rfl, _, rfl, _, rfl, _, rfl, rfl, tp, sc, A, n, s, L, M, C, e, rfl, t4, a1, bk g4, I, he, fun v r H5 g5 t5 hv hw hr => ?_⟩
          refine ⟨rfl, A, n, s, L, M, C, e, v, r, rfl, bk (g4.trans g5), I, he, hv, .inr ⟨hw, hr, fun v' H6 aft => ?_⟩⟩
          exact hD _ (((lk3.tape g4 t4).tape g5 t5).aft e1 a1 a2 a3 aft)
        refine ⟨_, rfl, rfl, _, rfl, ?_⟩
        rw [dec_int]
        by_cases hk8 : k = 8
        · rw [beq_iff_eq.mpr hk8]
          refine ⟨_, rfl, rfl, tp, sc, 3, rfl, lk3.t, by decide, by decide, fun r H4 g4 t4 r0 r1 => ?_⟩
          refine ⟨rfl, _, rfl, ?_⟩
          rw [dec_int]
          by_cases hr0 : r = 0
          · rw [hr0, beq_self_eq_true]
            have B4 := bk g4
            have lk4 := lk3.tape g4 t4
            refine ⟨_, rfl, _, _, _, _, _, rfl, B4.ins, T.k_Blocks, T.na_Blocks_disk, rfl, A.dk, _, _, rfl, B4.disk.ins, rfl, 5, rfl, by decide, by decide, ?_⟩
            refine lc_go2 (Z := [tp]) (fun i acc H' => TapeAt K H' tp sc ∧ ∃ zs : List Int, acc = zs.map V.int) wk_range (by decide) (fun b hb => by
              obtain ⟨_, _, _, _, z, _⟩ := t4.ex
              rw [List.mem_singleton] at hb
              rw [hb]
              exact ⟨_, z⟩) (fun _ _ => trivial) (fun D hD => ⟨t4.new hD, [], rfl⟩) (fun _ _ D _ _ hD r g => ⟨r.1.go g (by simpa using (t4.ntp hD).symm) (by simpa using (t4.nsc hD).symm), r.2⟩) ?_ ?_
            · rintro j x acc H5 hj rfl hl5 g5 ⟨t5, zs, rfl⟩ K1 K2 k1 k2
              refine ⟨rfl, _, rfl, rfl, tp, sc, 2, rfl, t5, by decide, by decide, fun r H7 g7 t7 r0 r1 => ?_⟩
              exact k1 _ _ g7 ⟨t7, zs ++ [r], by rw [List.map_append] <;> rfl⟩
            · rintro D acc H5 hD g5 hacc hl5 ⟨t5, zs, rfl⟩
              have B5 := bk (g4.trans g5)
              have lk5 := lk4.tape g5 t5
              obtain ⟨hl, hhl, _, _⟩ := B4.disk.heldL
              obtain ⟨wl, hwl, _⟩ := B4.disk.waL
              refine ⟨rfl, A.dk, A.dxd, A.he, A.wa, n, s.held, s.queue, D, zs, rfl, B5.disk, hacc, ⟨(ne_of_none hhl hD).symm, (ne_of_none hwl hD).symm⟩, fun o ho => (I.bas.queue o ho).2, fun H6 wa' g6 hwa' D6 => ?_⟩
              obtain ⟨W, hW⟩ : ∃ W, W = cutH s.held s.queue (zs.map fun x => decide (x % 2 = 1)) := ⟨_, rfl⟩
              have hWv : ∀ x, W x = s.held x ∨ ∃ w e, Op.wr x w e ∈ s.queue ∧ W x = w := fun x => by rw [hW]; exact cut_val _ _ _ x
              rw [← hW] at D6
              have okW : ∀ x, 0 ≤ x → x < n → Okw (W x) := fun x h0 h1 => by
                rcases hWv x with h | ⟨w, e, h2, h3⟩
                · rw [h]; exact I.bas.held x h0 h1
                · rw [h3]; exact I.bas.wrs x w e h2
              obtain ⟨L', hL', hst⟩ := I.restart (by omega) W fun x _ _ => hWv x
              obtain ⟨ms5, T5⟩ := B5.types
              obtain ⟨kl5, hkl5, _⟩ := T5.knL
              have hml5 := T5.mkL
              obtain ⟨hl5', hhl5, _, _⟩ := B5.disk.heldL
              have nl := B5.nl
              simp only [List.nodup_cons, List.mem_cons, List.not_mem_nil, or_false, not_or] at nl
              have hB : H6 A.bl = _ := g6.fr _ _ B5.ins (by
                simp only [List.mem_cons, List.not_mem_nil, or_false, not_or]
                exact ⟨ne_bl_dk B5, ne_lst B5.ins hhl5⟩)
              have T6 := T5.go g6 (by
                simp only [List.mem_cons, List.not_mem_nil, or_false, not_or]
                rintro x (rfl | rfl | rfl)
                · exact ⟨ne_ty_dk B5, ne_lst T5.ins hhl5⟩
                · exact ⟨(ne_lst B5.disk.ins hkl5).symm, fun z => nl.1.2.2.1 z.symm⟩
                · exact ⟨(ne_lst B5.disk.ins hml5).symm, fun z => nl.1.2.2.2 z.symm⟩)
              have inA : ∀ z ∈ [A.dk, A.he], z ∈ A.all := by simp [Ad.all]
              have t6 := t5.go g6 (fun z => a1 (inA _ z)) (fun z => a2 (inA _ z))
              have s6 := g6.fr _ _ lk5.s (fun z => a3 (inA _ z))
              have k6 : tp ≠ sc := by
                obtain ⟨_, _, _, _, _, _, z, _⟩ := t6.ex
                exact z.symm
              refine ⟨_, rfl, _, _, _, _, _, rfl, hB, T.k_Blocks, T.na_Blocks_disk, rfl, A.dk, _, _, rfl, D6.ins, rfl, rfl, A.dk, A.dxd, A.he, wa', n, W, [], rfl, D6, fun p hs H7 g7 hp hp7 hlen hhs => ?_⟩
              refine ⟨rfl, p, hs, n, W, rfl, hp7, hlen, B4.disk.n0, fun j v e => ⟨hhs j v e, ?_⟩, fun H8 dk' dxd' he' wa2 g8 hdk' hhe' hwa2 ne1 ne2 D8 => ?_⟩
              · have := (List.getElem?_eq_some_iff.mp e).1
                exact okW _ (by omega) (by omega)
              have g68 := g7.trans g8
              refine ⟨_, rfl, sh, _, rfl, .inl (.inl (.inl (g68.at s6))), fun s2 hs2 => ?_⟩
              have g89 : Go [] H8 (upd H8 s2 (.lst [.int 5, .int 5, .int 5, .int 5])) := Go.new hs2
              have h9 : upd H8 s2 (.lst [.int 5, .int 5, .int 5, .int 5]) s2 = some (.lst [.int 5, .int 5, .int 5, .int 5]) := upd_same
              generalize upd H8 s2 (.lst [.int 5, .int 5, .int 5, .int 5]) = H9 at g89 h9 ⊢
              refine ⟨_, rfl, fun x dx hx hdx nd2 => ?_⟩
              have g9A : Go [] H9 (upd (upd H9 dx (.own x)) x (.ins (He.ga K "Blocks") dx [])) := (Go.new hdx).trans (Go.new (by rw [upd_ne nd2.symm]; exact hx))
              have hAx : upd (upd H9 dx (.own x)) x (.ins (He.ga K "Blocks") dx []) x = some (.ins (He.ga K "Blocks") dx []) := upd_same
              have D9 := D8.go g89 (by simp)
              have T9 := (T6.go g68 (by simp)).go g89 (by simp)
              have g69 := g68.trans g89
              generalize upd (upd H9 dx (.own x)) x (.ins (He.ga K "Blocks") dx []) = HA at g9A hAx ⊢
              have g6A := g69.trans g9A
              obtain ⟨kl6, hkl6, _⟩ := T6.knL
              have hml6 := T6.mkL
              refine ⟨rfl, x, dx, dk', dxd', he', wa2, s2, ty, A.dxt, A.kn, A.mks, n, W, ms5, L', by rw [← e1] <;> rfl, hAx, D9.go g9A (by simp), g9A.at h9, by rw [← e1]; exact T9.go g9A (by simp), nodup4 D9.ne (ne_of_none (g7.at hkl6) hhe').symm (ne_of_none (g7.at hml6) hhe').symm (ne_of_none (g7.at hkl6) hwa2).symm (ne_of_none (g7.at hml6) hwa2).symm T9.ne, hL', okW, (ne_of_none D9.ins hx).symm, by rw [← e1]; exact (ne_of_none T9.ins hx).symm, fun HB s3 bu ke fr f gB hs3 hbu hke hfr BB hf => ⟨rfl, ?_⟩⟩
              have g9B : Go [] H9 HB := Go.drop1 g9A gB hx
              have g6B := g69.trans g9B
              have IB : InvB n gdF (s0 W f) L' L' fun _ => e0 := hst (s0 W f) rfl rfl rfl rfl hf
              refine hN _ _ ⟨x, x10, rfl, ?_⟩
              obtain ⟨_, _, _, _, z1, z2, _⟩ := t6.ex
              refine LK.of (A := ⟨x, dx, dk', dxd', ty, A.dxt, he', wa2, s3, A.kn, A.mks, bu, ke, fr⟩) (Hs := H6) BB IB z1 z2 s6 ?_ (t6.go g6B (by simp) (by simp)) (g6B.at s6) lk5.ne
              have old : ∀ a ∈ A.all, a ≠ tp ∧ a ≠ sc ∧ a ≠ sh := fun a h => ⟨fun z => a1 (by rw [← z]; exact h), fun z => a2 (by rw [← z]; exact h), fun z => a3 (by rw [← z]; exact h)⟩
              have oty : ty ≠ tp ∧ ty ≠ sc ∧ ty ≠ sh := by
                rw [← e1]
                exact old _ (by simp [Ad.all])
              have okn := old A.kn (by simp [Ad.all])
              have omk := old A.mks (by simp [Ad.all])
              simp only [Ad.all, List.mem_cons, List.not_mem_nil, or_false]
              rintro b (h | h | h | h | h | h | h | h | h | h | h) <;> rw [h]
              · exact .inl (g69.free hx)
              · exact .inl (g7.free hdk')
              · exact .inl (g7.free hhe')
              · exact .inl (g7.free hwa2)
              · exact .inr oty
              · exact .inr okn
              · exact .inr omk
              · exact .inl (g6A.free hs3)
              · exact .inl (g6A.free hbu)
              · exact .inl (g6A.free hke)
              · exact .inl (g6A.free hfr)
          · rw [beq_eq_false_iff_ne.mpr hr0]
            exact req (fun H5 l5 => hN _ _ ⟨_, _, rfl, l5⟩) g4 t4
        · rw [beq_eq_false_iff_ne.mpr hk8]
          exact req (fun H5 l5 => hN _ _ ⟨_, _, rfl, l5⟩) Go.refl lk3.t
    clear lk3 bl
    rintro σ H4 ⟨bl, x10', rfl, lk⟩
    refine ⟨_, rfl, _, 4, rfl, rfl, (by decide : (0 : Int) < 4), rfl, _, rfl, ?_⟩
    rw [dec_int]
    by_cases h4 : (0 + (i : Int)) % 4 = 0
    · rw [h4, beq_self_eq_true]
      refine ⟨4, rfl, by decide, by decide, ?_⟩
      refine for_it wk_range (fun j σ H' => ∃ x9, σ = [some (.ref a), some (.ref tp), some (.int n), some (.ref sh), some (.ref ty), some (.ref bl), some (.int e), some (.int (0 + (i : Int))), some (.int k), x9, x10'] ∧ LK K tp sc sh ty bl n H') ⟨_, rfl, lk⟩ (fun _ _ _ _ _ => trivial) ?_ ?_
      · rintro j xj σ H5 H6 hj ⟨x9', rfl, lk6⟩ ⟨rfl, rfl⟩
        obtain ⟨A, s, L, M, C, B, I, e1, rfl, a1, a2, a3⟩ := lk6.ex
        have hj4 : (j : Int) < 4 := by
          have : (4 : Int).toNat = 4 := rfl
          omega
        refine ⟨_, rfl, _, rfl, rfl, A, n, s, L, M, C, 0 + (j : Int), rfl, B, I, ⟨by omega, by omega⟩, fun H7 g7 => ⟨true, rfl, ?_⟩⟩
        exact ⟨_, rfl, lk6.go0 g7⟩
      · rintro σ H5 ⟨x9', rfl, lk5⟩
        exact ⟨bl, e, _, _, _, _, rfl, he, lk5⟩
    · rw [beq_eq_false_iff_ne.mpr h4]
      exact ⟨bl, e, _, _, _, _, rfl, he, lk⟩
  rintro σ HB ⟨bl, e, x7, x8, x9, x10, rfl, he, lk⟩
  exact q _
end

end SH

set_option Elab.async false
set_option linter.all false
set_option maxRecDepth 100000
set_option maxHeartbeats 0
namespace SH
open PySem PySem.Spec PyProof.Rows L2
theorem all_ok {P : Program} {w : World} {K : PySem.W.Frag} {mg : Str → Option Value} {fd : FuncData} (T : Txt w K mg) (F : FunD K "law" "law" (defArgs s_law) (defBody s_law) (defScope s_law) [] [] (He.fAd K ("law", none)) fd) (base : Heap) : FnOk P w K mg base C8.CX0 15 (He.fAd K ("law", none)) fd ["_law_script"] (sp_law K) := by
  have c_law_clean := ok_law_clean (P := P) (w := w) (K := K) (mg := mg) (base := base) T
  have c_Disk_words := ok_Disk_words (P := P) (w := w) (K := K) (mg := mg) (base := base) T
  have c_is_block := ok_is_block (P := P) (w := w) (K := K) (mg := mg) (base := base) T
  have c_words_of := ok_words_of (P := P) (w := w) (K := K) (mg := mg) (base := base) T
  have c_run_program := ok_run_program (P := P) (w := w) (K := K) (mg := mg) (base := base) T c_is_block c_words_of
  have c_is_number := ok_is_number (P := P) (w := w) (K := K) (mg := mg) (base := base) T
  have c_Types_count := ok_Types_count (P := P) (w := w) (K := K) (mg := mg) (base := base) T
  have c_Types_is_known := ok_Types_is_known (P := P) (w := w) (K := K) (mg := mg) (base := base) T c_is_number c_Types_count
  have c_Types_owned := ok_Types_owned (P := P) (w := w) (K := K) (mg := mg) (base := base) T c_is_block c_run_program c_Types_is_known
  have c_Blocks_forest := ok_Blocks_forest (P := P) (w := w) (K := K) (mg := mg) (base := base) T c_Disk_words c_Types_owned
  have c_Blocks_lasting_forest := ok_Blocks_lasting_forest (P := P) (w := w) (K := K) (mg := mg) (base := base) T c_Blocks_forest
  have c_Blocks_reserved := ok_Blocks_reserved (P := P) (w := w) (K := K) (mg := mg) (base := base) T
  have c_Blocks_memory_forest := ok_Blocks_memory_forest (P := P) (w := w) (K := K) (mg := mg) (base := base) T c_Blocks_forest c_Blocks_reserved
  have c_no := ok_no (P := P) (w := w) (K := K) (mg := mg) (base := base) T
  have c_Blocks_is_above := ok_Blocks_is_above (P := P) (w := w) (K := K) (mg := mg) (base := base) T c_Blocks_memory_forest
  have c_Blocks_holds := ok_Blocks_holds (P := P) (w := w) (K := K) (mg := mg) (base := base) T
  have c_Blocks_is_filled := ok_Blocks_is_filled (P := P) (w := w) (K := K) (mg := mg) (base := base) T c_Blocks_holds
  have c_Blocks_owns_something := ok_Blocks_owns_something (P := P) (w := w) (K := K) (mg := mg) (base := base) T c_Blocks_memory_forest
  have c_Blocks_alter_fault := ok_Blocks_alter_fault (P := P) (w := w) (K := K) (mg := mg) (base := base) T c_Blocks_is_above c_Blocks_is_filled c_Blocks_owns_something
  have c_Blocks_has_buffer := ok_Blocks_has_buffer (P := P) (w := w) (K := K) (mg := mg) (base := base) T
  have c_is_word := ok_is_word (P := P) (w := w) (K := K) (mg := mg) (base := base) T c_is_number
  have c_is_words := ok_is_words (P := P) (w := w) (K := K) (mg := mg) (base := base) T c_is_word
  have c_Blocks_is_rows := ok_Blocks_is_rows (P := P) (w := w) (K := K) (mg := mg) (base := base) T c_is_number c_is_words
  have c_Blocks_types_in := ok_Blocks_types_in (P := P) (w := w) (K := K) (mg := mg) (base := base) T c_Blocks_memory_forest
  have c_Blocks_alter := ok_Blocks_alter (P := P) (w := w) (K := K) (mg := mg) (base := base) T c_no c_Blocks_alter_fault c_Blocks_has_buffer c_Blocks_is_rows c_Blocks_types_in c_Types_owned
  have c_Blocks_forest_with := ok_Blocks_forest_with (P := P) (w := w) (K := K) (mg := mg) (base := base) T c_Blocks_forest
  have c_Disk_queue := ok_Disk_queue (P := P) (w := w) (K := K) (mg := mg) (base := base) T
  have c_Blocks_coming := ok_Blocks_coming (P := P) (w := w) (K := K) (mg := mg) (base := base) T c_Blocks_forest_with c_Blocks_lasting_forest c_Disk_queue
  have c_Blocks_charged := ok_Blocks_charged (P := P) (w := w) (K := K) (mg := mg) (base := base) T c_Blocks_coming c_Blocks_lasting_forest c_Blocks_memory_forest c_Disk_queue
  have c_Blocks_is_fresh := ok_Blocks_is_fresh (P := P) (w := w) (K := K) (mg := mg) (base := base) T
  have c_Blocks_may_link := ok_Blocks_may_link (P := P) (w := w) (K := K) (mg := mg) (base := base) T c_Blocks_charged c_Blocks_is_fresh
  have c_Disk_waits := ok_Disk_waits (P := P) (w := w) (K := K) (mg := mg) (base := base) T
  have c_Disk_add := ok_Disk_add (P := P) (w := w) (K := K) (mg := mg) (base := base) T c_Disk_waits
  have c_Blocks_flush := ok_Blocks_flush (P := P) (w := w) (K := K) (mg := mg) (base := base) T c_no c_Blocks_may_link c_Blocks_coming c_Blocks_forest_with c_Blocks_lasting_forest c_Disk_add c_Disk_queue c_Disk_waits
  have c_Blocks_buffered := ok_Blocks_buffered (P := P) (w := w) (K := K) (mg := mg) (base := base) T c_no c_Blocks_flush c_Blocks_has_buffer c_Blocks_is_fresh c_Disk_waits c_Disk_words
  have c_Blocks_fetch := ok_Blocks_fetch (P := P) (w := w) (K := K) (mg := mg) (base := base) T c_no c_Blocks_is_fresh c_Blocks_memory_forest c_Disk_add c_Disk_queue c_Disk_waits
  have c_Blocks_fill := ok_Blocks_fill (P := P) (w := w) (K := K) (mg := mg) (base := base) T c_no c_Blocks_holds c_Types_is_known
  have c_Blocks_free := ok_Blocks_free (P := P) (w := w) (K := K) (mg := mg) (base := base) T c_Blocks_charged
  have c_Blocks_may_reserve := ok_Blocks_may_reserve (P := P) (w := w) (K := K) (mg := mg) (base := base) T c_Blocks_charged c_Blocks_free
  have c_Blocks_reserve := ok_Blocks_reserve (P := P) (w := w) (K := K) (mg := mg) (base := base) T c_no c_Blocks_free c_Blocks_may_reserve
  have c_Blocks_unreserve := ok_Blocks_unreserve (P := P) (w := w) (K := K) (mg := mg) (base := base) T c_no c_Blocks_holds c_Blocks_owns_something c_Disk_waits
  have c_Blocks_request := ok_Blocks_request (P := P) (w := w) (K := K) (mg := mg) (base := base) T c_is_number c_Blocks_alter c_Blocks_buffered c_Blocks_fetch c_Blocks_fill c_Blocks_reserve c_Blocks_unreserve c_Blocks_charged
  have c_law_fits := ok_law_fits (P := P) (w := w) (K := K) (mg := mg) (base := base) T c_law_clean c_Blocks_lasting_forest c_Blocks_memory_forest c_Blocks_request c_Disk_words
  have c_law_next := ok_law_next (P := P) (w := w) (K := K) (mg := mg) (base := base) T
  have c_law_pick := ok_law_pick (P := P) (w := w) (K := K) (mg := mg) (base := base) T c_law_next c_Blocks_memory_forest c_Blocks_reserved
  have c_law_wild_row := ok_law_wild_row (P := P) (w := w) (K := K) (mg := mg) (base := base) T c_law_next c_law_pick c_Blocks_request
  have c_law_wild := ok_law_wild (P := P) (w := w) (K := K) (mg := mg) (base := base) T c_law_next c_law_pick c_law_wild_row
  have c_law_marked := ok_law_marked (P := P) (w := w) (K := K) (mg := mg) (base := base) T c_law_next c_law_wild
  have c_is_index := ok_is_index (P := P) (w := w) (K := K) (mg := mg) (base := base) T c_is_number
  have c_is_guard := ok_is_guard (P := P) (w := w) (K := K) (mg := mg) (base := base) T c_is_index c_is_word
  have c_is_many := ok_is_many (P := P) (w := w) (K := K) (mg := mg) (base := base) T c_is_index c_is_number
  have c_is_clause := ok_is_clause (P := P) (w := w) (K := K) (mg := mg) (base := base) T c_is_guard c_is_index c_is_many c_is_number
  have c_is_program := ok_is_program (P := P) (w := w) (K := K) (mg := mg) (base := base) T c_is_clause
  have c_Types_add := ok_Types_add (P := P) (w := w) (K := K) (mg := mg) (base := base) T c_is_program c_Types_count
  have c_Types_init := ok_Typesinit (P := P) (w := w) (K := K) (mg := mg) (base := base) T
  have c_law_types := ok_law_types (P := P) (w := w) (K := K) (mg := mg) (base := base) T c_Types_add c_Types_init
  have c_Disk_init := ok_Diskinit (P := P) (w := w) (K := K) (mg := mg) (base := base) T c_is_number
  have c_disk_from := ok_disk_from (P := P) (w := w) (K := K) (mg := mg) (base := base) T c_is_words c_Disk_init
  have c_Disk_do := ok_Disk_do (P := P) (w := w) (K := K) (mg := mg) (base := base) T
  have c_Blocks_do := ok_Blocks_do (P := P) (w := w) (K := K) (mg := mg) (base := base) T c_Blocks_memory_forest c_Disk_do
  have c_Disk_cut := ok_Disk_cut (P := P) (w := w) (K := K) (mg := mg) (base := base) T
  have c_Disk_image := ok_Disk_image (P := P) (w := w) (K := K) (mg := mg) (base := base) T
  have c_Blocks_init := ok_Blocksinit (P := P) (w := w) (K := K) (mg := mg) (base := base) T c_is_number c_Blocks_lasting_forest
  exact ok_law (P := P) (w := w) (K := K) (mg := mg) (base := base) F T c_law_fits c_law_marked c_law_next c_law_types c_disk_from c_Blocks_do c_Blocks_request c_Disk_cut c_Disk_image c_Blocks_init c_Disk_init
theorem facts {P : Program} {w : World} {K : PySem.W.Frag} {h : Heap} {mg : Str → Option Value} {f : Addr} (X : K.In h) (G : h.Ns mainGlobals mg) (hfa : mg ("law" : Str) = some (.ref f)) (c : He.SaysX fas fns tabs [] exB w h K) :
    ∃ fd : FuncData, (∀ (s : Shared) (v : Value), BindsTo s fd ⟨[v], []⟩ [("_law_script", v)]) ∧ ∀ base : Heap, K.In base → base.Ns mainGlobals mg → FnOk P w K mg base C8.CX0 15 f fd ["_law_script"] (sp_law K) := by
  have T : Txt w K mg := ⟨h, X, G, c⟩
  obtain ⟨fd, F⟩ := T.f_law
  have e := hfa.symm.trans T.o_law
  cases e
  have b := FunD.bindsA (ps := ["_law_script"]) F fun _ _ _ _ _ _ us hl => match us, hl with | [_], _ => rfl
  exact ⟨fd, fun s v => b s [v] rfl, fun base _ _ => all_ok T F base⟩
end SH

set_option Elab.async false
set_option linter.all false
set_option maxRecDepth 100000
set_option maxHeartbeats 0
open PySem PySem.W PySem.Calls PyProof.Rows
theorem PySem.Challenge.cw_steadhold_k13_whole_nobody_reads_another_holds : PySem.Challenge.rw_steadhold_k13_whole_nobody_reads_another.Holds := by
  w_on; o_law
  refine HandSHeadRun.head_any (r := OpenLaw.row PySem.Challenge.rw_steadhold_k13_whole_nobody_reads_another) (q := view (OpenLaw.row PySem.Challenge.rw_steadhold_k13_whole_nobody_reads_another).prog [48]) (H := SH.hk) (ob := SH.ob) (M := 6000) (loose := SH.loose) (d := HandSHeadRun.topDef (OpenLaw.row PySem.Challenge.rw_steadhold_k13_whole_nobody_reads_another).prog 48) (kwd := []) SH.ob_eq
    (by kernel_rfl) (fun s => by kernel_rfl) SH.run (by kernel_rfl) (by kernel_rfl) (by kernel_rfl) (by rfl) (by first | assumption | decide +kernel) (by decide +kernel) ⟨rfl, rfl, rfl, rfl, rfl, by decide +kernel⟩ ?hw ?hc
  case hw => w_witness2
  case hc =>
    refine L2.walk_ofE (l := PySem.Challenge.rw_steadhold_k13_whole_nobody_reads_another) (n := 63) (k := 15) (x := "_law_script") (CX := C8.CX0) rfl (by decide) (by kernel_rfl) ⟨rfl, by decide, by decide⟩ ?F (fun _ _ _ _ z => z)
    intro w mg fa h Y G hmg0
    obtain ⟨K, KX, c⟩ := Y
    have hmg : mg ("law" : PySem.Str) = some (.ref fa) := by
      have e : (HandSHeadRun.topDef (OpenLaw.row PySem.Challenge.rw_steadhold_k13_whole_nobody_reads_another).prog 48).name = ("law" : PySem.Str) := by kernel_rfl
      rw [← e]
      exact hmg0
    obtain ⟨fd, hb, hF⟩ := SH.facts (P := (PySem.Challenge.rw_steadhold_k13_whole_nobody_reads_another).prog) (w := w) KX G hmg c
    exact ⟨K, fd, SH.sp_law K, KX, hb, fun H a ns hl _ hS => ⟨rfl, a, ns, rfl, hS, fun _ => rfl⟩, hF⟩
