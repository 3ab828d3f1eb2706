import PyProof.Rows.All
import Wide.All
import OpenK.AllK
import Wide.FinOn
import PySem.Challenge.RW_masksmoved_k08_whole_which_can_be_seated
import HandS.ForMost
import HandS.Zip
import HandS.NoneIn
import HandS.TupAny
import HandS.DictComp
import HandS.IsInst
import HandS.Wide
import HandS.ForExc
import HandS.ExcField
import KE.SortData
import HandS.SetFor
import KE.KDictPairs
import KE.KExcSuper
import KE.KExcInit
import KE.KExcLine
import HandS.ExcSuper
import HandS.ExcIs
import KE.KExcIs
import HandS.Deep
import HandS.Flow
import KE.KDictZip
set_option Elab.async false
set_option linter.all false
set_option maxRecDepth 100000
set_option maxHeartbeats 4000000
/-! The plain law, part 1: a dict as a list of pairs, moving on by augmenting paths (as Kuhn's way of matching). -/
namespace Km
variable {C T : Type} [DecidableEq C] [DecidableEq T]

def get (f : List (C × T)) (c : C) : Option T := (f.find? fun p => decide (p.1 = c)).map (·.2)
def put (f : List (C × T)) (c : C) (t : T) : List (C × T) :=
  if (f.any fun p => decide (p.1 = c)) = true then f.map (fun p => if p.1 = c then (p.1, t) else p) else f ++ [(c, t)]

theorem get_nil (c : C) : get ([] : List (C × T)) c = none := rfl
theorem get_cons (p : C × T) (f : List (C × T)) (c : C) : get (p :: f) c = if p.1 = c then some p.2 else get f c := by
  by_cases h : p.1 = c
  · simp [get, List.find?_cons, h]
  · simp [get, List.find?_cons, h]
theorem get_none_iff {f : List (C × T)} {c : C} : get f c = none ↔ c ∉ f.map (·.1) := by
  induction f with
  | nil => simp [get_nil]
  | cons p f ih =>
    rw [get_cons]
    by_cases h : p.1 = c
    · simp [h]
    · simp only [h, if_false, ih, List.map_cons, List.mem_cons, not_or]
      exact ⟨fun q => ⟨fun e => h e.symm, q⟩, fun q => q.2⟩
theorem mem_of_get {f : List (C × T)} {c : C} {t : T} (h : get f c = some t) : (c, t) ∈ f := by
  induction f with
  | nil => simp [get_nil] at h
  | cons p f ih =>
    rw [get_cons] at h
    by_cases e : p.1 = c
    · rw [if_pos e] at h
      cases h
      subst e
      exact List.mem_cons_self
    · rw [if_neg e] at h
      exact List.mem_cons_of_mem _ (ih h)
theorem get_of_mem {f : List (C × T)} {c : C} {t : T} (hn : (f.map (·.1)).Nodup) (h : (c, t) ∈ f) : get f c = some t := by
  induction f with
  | nil => simp at h
  | cons p f ih =>
    rw [List.map_cons, List.nodup_cons] at hn
    rw [get_cons]
    rcases List.mem_cons.mp h with e | e
    · subst e
      simp
    · have ne : p.1 ≠ c := fun z => hn.1 (by rw [z]; exact List.mem_map.mpr ⟨(c, t), e, rfl⟩)
      rw [if_neg ne]
      exact ih hn.2 e
theorem any_iff (f : List (C × T)) (c : C) : (f.any fun p => decide (p.1 = c)) = (get f c).isSome := by
  induction f with
  | nil => rfl
  | cons p f ih =>
    rw [List.any_cons, ih, get_cons]
    by_cases h : p.1 = c <;> simp [h]
theorem put_new {f : List (C × T)} {c : C} (t : T) (h : get f c = none) : put f c t = f ++ [(c, t)] := by
  unfold put
  rw [any_iff, h]
  simp
theorem put_old {f : List (C × T)} {c : C} {x : T} (t : T) (h : get f c = some x) : put f c t = f.map (fun p => if p.1 = c then (p.1, t) else p) := by
  unfold put
  rw [any_iff, h]
  simp
theorem get_append (f g : List (C × T)) (c : C) : get (f ++ g) c = (get f c).or (get g c) := by
  induction f with
  | nil => simp [get_nil]
  | cons p f ih =>
    rw [List.cons_append, get_cons, get_cons, ih]
    by_cases h : p.1 = c <;> simp [h]
theorem get_map (f : List (C × T)) (c d : C) (t : T) : get (f.map (fun p => if p.1 = c then (p.1, t) else p)) d = if d = c then (get f d).map (fun _ => t) else get f d := by
  induction f with
  | nil => simp [get_nil]
  | cons p f ih =>
    rw [List.map_cons, get_cons, get_cons, ih]
    by_cases h : p.1 = c
    · by_cases e : c = d
      · subst e; simp [h]
      · have : ¬ d = c := fun z => e z.symm
        simp [h, e, this]
    · by_cases e : p.1 = d
      · subst e; simp [h]
      · simp [h, e]
theorem get_put_same (f : List (C × T)) (c : C) (t : T) : get (put f c t) c = some t := by
  cases h : get f c with
  | none => rw [put_new t h, get_append, h, get_cons]; simp
  | some x => rw [put_old t h, get_map, h]; simp
theorem get_put_ne (f : List (C × T)) {c d : C} (t : T) (hd : d ≠ c) : get (put f c t) d = get f d := by
  cases h : get f c with
  | none =>
    rw [put_new t h, get_append, get_cons, if_neg (fun z => hd z.symm), get_nil]
    simp
  | some x => rw [put_old t h, get_map, if_neg hd]
theorem keys_map (f : List (C × T)) (c : C) (t : T) : (f.map (fun p => if p.1 = c then (p.1, t) else p)).map (·.1) = f.map (·.1) := by
  rw [List.map_map]
  refine List.map_congr_left fun p _ => ?_
  show (if p.1 = c then (p.1, t) else p).1 = p.1
  by_cases h : p.1 = c <;> simp [h]
theorem nodup_put {f : List (C × T)} (c : C) (t : T) (hn : (f.map (·.1)).Nodup) : ((put f c t).map (·.1)).Nodup := by
  cases h : get f c with
  | none =>
    rw [put_new t h, List.map_append]
    refine List.nodup_append.mpr ⟨hn, by simp, ?_⟩
    intro a ha b hb
    simp at hb
    subst hb
    intro e
    exact get_none_iff.mp h (by rw [← e]; exact ha)
  | some x => rw [put_old t h, keys_map]; exact hn
theorem mem_put {f : List (C × T)} {c : C} {t : T} {p : C × T} (h : p ∈ put f c t) : p = (c, t) ∨ (p ∈ f ∧ p.1 ≠ c) := by
  cases e : get f c with
  | none =>
    rw [put_new t e] at h
    rcases List.mem_append.mp h with h | h
    · exact .inr ⟨h, fun z => get_none_iff.mp e (List.mem_map.mpr ⟨p, h, z⟩)⟩
    · exact .inl (by simpa using h)
  | some x =>
    rw [put_old t e] at h
    obtain ⟨q, hq, rfl⟩ := List.mem_map.mp h
    by_cases z : q.1 = c
    · rw [if_pos z, z]; exact .inl rfl
    · rw [if_neg z]; exact .inr ⟨hq, z⟩
theorem map_out {f : List (C × T)} {c : C} (t : T) (h : c ∉ f.map (·.1)) : f.map (fun p => if p.1 = c then (p.1, t) else p) = f := by
  refine (List.map_congr_left fun p hp => ?_).trans (List.map_id f)
  rw [if_neg fun z => h (List.mem_map.mpr ⟨p, hp, z⟩)]
  rfl
/-- the values behind a store at a taken place -/
theorem perm_put_old : ∀ {f : List (C × T)} {c : C} {x : T} (t : T), (f.map (·.1)).Nodup → get f c = some x → (x :: (put f c t).map (·.2)).Perm (t :: f.map (·.2))
  | [], c, x, t, _, h => by simp [get_nil] at h
  | p :: f, c, x, t, hn, h => by
    rw [put_old t h]
    rw [List.map_cons, List.nodup_cons] at hn
    rw [get_cons] at h
    by_cases e : p.1 = c
    · rw [if_pos e] at h
      cases h
      rw [List.map_cons, if_pos e, map_out t (by rw [← e]; exact hn.1)]
      exact List.Perm.swap _ _ _
    · rw [if_neg e] at h
      have ih := perm_put_old t hn.2 h
      rw [put_old t h] at ih
      rw [List.map_cons, if_neg e, List.map_cons, List.map_cons]
      exact (List.Perm.swap _ _ _).trans ((ih.cons p.2).trans (List.Perm.swap _ _ _))

/-! ### one task more -/
abbrev Res (C T : Type) := Bool × List (C × T) × List C
def loopM (rec : List (C × T) → T → List C → Res C T) (t : T) : List C → List (C × T) → List C → Res C T
  | [], f, tr => (false, f, tr)
  | c :: cs, f, tr =>
    if c ∈ tr then loopM rec t cs f tr
    else match get f c with
      | none => (true, put f c t, tr ++ [c])
      | some x => match rec f x (tr ++ [c]) with
        | (true, f2, tr2) => (true, put f2 c t, tr2)
        | (false, f2, tr2) => loopM rec t cs f2 tr2
def seatM (mask : T → List C) : Nat → List (C × T) → T → List C → Res C T
  | 0, f, t, tr => loopM (fun f _ tr => (false, f, tr)) t (mask t) f tr
  | n + 1, f, t, tr => loopM (seatM mask n) t (mask t) f tr

/-- pairs that may be so -/
structure Fits (mask : T → List C) (f : List (C × T)) : Prop where
  nd : (f.map (·.1)).Nodup
  may : ∀ p ∈ f, p.1 ∈ mask p.2
/-- a set of places, all taken by those who can go nowhere else -/
def Shut (mask : T → List C) (S : C → Prop) (f : List (C × T)) : Prop := ∀ c, S c → ∃ x, get f c = some x ∧ ∀ d ∈ mask x, S d
structure Good (mask : T → List C) (U : List C) (f : List (C × T)) (t : T) (cs tr : List C) (r : Res C T) : Prop where
  sub : ∀ c ∈ tr, c ∈ r.2.2
  inU : ∀ c ∈ r.2.2, c ∈ tr ∨ c ∈ U
  no : r.1 = false → r.2.1 = f ∧ (∀ c ∈ cs, c ∈ r.2.2) ∧ ∀ c ∈ r.2.2, c ∉ tr → ∃ x, get f c = some x ∧ ∀ d ∈ mask x, d ∈ r.2.2
  yes : r.1 = true → Fits mask r.2.1 ∧ (r.2.1.map (·.2)).Perm (t :: f.map (·.2)) ∧ (∀ c ∈ tr, get r.2.1 c = get f c) ∧ ∀ S, Shut mask S f → ∀ c, S c → get r.2.1 c = get f c
  shut : ∀ S, Shut mask S f → (∀ c ∈ cs, S c) → r.1 = false
/-- how many places aren't tried -/
def room (U tr : List C) : Nat := (U.filter fun c => decide (c ∉ tr)).length
theorem room_le {U tr tr' : List C} (h : ∀ c ∈ tr, c ∈ tr') : room U tr' ≤ room U tr := by
  unfold room
  rw [← List.countP_eq_length_filter, ← List.countP_eq_length_filter]
  refine List.countP_mono_left fun c _ q => ?_
  simp only [decide_eq_true_eq] at q ⊢
  exact fun z => q (h c z)
theorem room_lt {U tr tr' : List C} {c : C} (h : ∀ c ∈ tr, c ∈ tr') (hc : c ∈ U) (h1 : c ∉ tr) (h2 : c ∈ tr') : room U tr' < room U tr := by
  unfold room
  induction U with
  | nil => simp at hc
  | cons d U ih =>
    have le : room U tr' ≤ room U tr := room_le h
    unfold room at le
    by_cases e : d = c
    · subst e
      rw [List.filter_cons, List.filter_cons, if_neg (by simp [h2]), if_pos (by simp [h1]), List.length_cons]
      omega
    · have hc' : c ∈ U := by
        rcases List.mem_cons.mp hc with z | z
        · exact absurd z.symm e
        · exact z
      have := ih hc'
      rw [List.filter_cons, List.filter_cons]
      by_cases k : d ∈ tr
      · have k' : d ∈ tr' := h d k
        rw [if_neg (by simp [k']), if_neg (by simp [k])]
        exact this
      · rw [if_pos (show decide (d ∉ tr) = true by simp [k])]
        by_cases k' : d ∈ tr'
        · rw [if_neg (by simp [k']), List.length_cons]; omega
        · rw [if_pos (by simp [k']), List.length_cons, List.length_cons]; omega

section
variable {mask : T → List C} {U : List C}
theorem loop_good (rec : List (C × T) → T → List C → Res C T) (R : Nat) (hU : ∀ t, ∀ c ∈ mask t, c ∈ U)
    (hrec : ∀ f x tr, Fits mask f → room U tr < R → Good mask U f x (mask x) tr (rec f x tr)) (t : T) :
    ∀ (cs : List C) (f : List (C × T)) (tr : List C), (∀ c ∈ cs, c ∈ mask t) → Fits mask f → room U tr ≤ R → Good mask U f t cs tr (loopM rec t cs f tr)
  | [], f, tr, _, hf, _ => by
    unfold loopM
    exact ⟨fun _ h => h, fun _ h => .inl h, fun _ => ⟨rfl, by simp, fun c h1 h2 => absurd h1 h2⟩, fun h => (by cases h), fun _ _ _ => rfl⟩
  | c :: cs, f, tr, hm, hf, hr => by
    have hm' : ∀ d ∈ cs, d ∈ mask t := fun d hd => hm d (List.mem_cons_of_mem _ hd)
    have hcU : c ∈ U := hU t c (hm c List.mem_cons_self)
    unfold loopM
    by_cases htr : c ∈ tr
    · rw [if_pos htr]
      have ih := loop_good rec R hU hrec t cs f tr hm' hf hr
      refine ⟨ih.sub, ih.inU, fun h => ?_, ih.yes, fun S hS hc => ih.shut S hS fun d hd => hc d (List.mem_cons_of_mem _ hd)⟩
      obtain ⟨a, b, d⟩ := ih.no h
      refine ⟨a, fun e he => ?_, d⟩
      rcases List.mem_cons.mp he with rfl | he
      · exact ih.sub _ htr
      · exact b e he
    · rw [if_neg htr]
      have sub1 : ∀ d ∈ tr, d ∈ tr ++ [c] := fun d hd => List.mem_append_left _ hd
      have hc1 : c ∈ tr ++ [c] := by simp
      have hlt : room U (tr ++ [c]) < room U tr := room_lt sub1 hcU htr hc1
      cases hg : get f c with
      | none =>
        show Good mask U f t (c :: cs) tr (true, put f c t, tr ++ [c])
        refine ⟨sub1, fun d hd => ?_, fun h => (by cases h), fun _ => ⟨⟨nodup_put c t hf.nd, fun p hp => ?_⟩, ?_, fun d hd => ?_, fun S hS d hd => ?_⟩, fun S hS hc => ?_⟩
        · rcases List.mem_append.mp hd with h | h
          · exact .inl h
          · have e : d = c := by simpa using h
            subst e
            exact .inr hcU
        · rcases mem_put hp with rfl | ⟨h, _⟩
          · exact hm c List.mem_cons_self
          · exact hf.may p h
        · show ((put f c t).map (·.2)).Perm _
          rw [put_new t hg, List.map_append]
          exact List.perm_append_singleton _ _
        · exact get_put_ne f t fun z => htr (by rw [← z]; exact hd)
        · refine get_put_ne f t fun z => ?_
          subst z
          obtain ⟨x, hx, _⟩ := hS d hd
          rw [hg] at hx; cases hx
        · obtain ⟨x, hx, _⟩ := hS c (hc c List.mem_cons_self)
          rw [hg] at hx; cases hx
      | some x =>
        have G := hrec f x (tr ++ [c]) hf (Nat.lt_of_lt_of_le hlt hr)
        show Good mask U f t (c :: cs) tr (match rec f x (tr ++ [c]) with
          | (true, f2, tr2) => (true, put f2 c t, tr2)
          | (false, f2, tr2) => loopM rec t cs f2 tr2)
        generalize rec f x (tr ++ [c]) = r at G ⊢
        obtain ⟨ok, f2, tr2⟩ := r
        cases ok with
        | true =>
          show Good mask U f t (c :: cs) tr (true, put f2 c t, tr2)
          obtain ⟨y1, y2, y3, y4⟩ := G.yes rfl
          have y1 : Fits mask f2 := y1
          have y2 : (f2.map (·.2)).Perm (x :: f.map (·.2)) := y2
          have hfc : get f2 c = some x := (y3 c hc1).trans hg
          refine ⟨fun d hd => G.sub d (sub1 d hd), fun d hd => ?_, fun h => (by cases h), fun _ => ⟨⟨nodup_put c t y1.nd, fun p hp => ?_⟩, ?_, fun d hd => ?_, fun S hS d hd => ?_⟩, fun S hS hc => ?_⟩
          · rcases G.inU d hd with h | h
            · rcases List.mem_append.mp h with h | h
              · exact .inl h
              · have e : d = c := by simpa using h
                subst e
                exact .inr hcU
            · exact .inr h
          · rcases mem_put hp with rfl | ⟨h, _⟩
            · exact hm c List.mem_cons_self
            · exact y1.may p h
          · have p1 := perm_put_old t y1.nd hfc
            have p2 : (t :: f2.map (·.2)).Perm (x :: (t :: f.map (·.2))) := (y2.cons t).trans (List.Perm.swap _ _ _)
            exact (List.perm_cons x).mp (p1.trans p2)
          · show get (put f2 c t) d = get f d
            rw [get_put_ne f2 t fun z => htr (by rw [← z]; exact hd)]
            exact y3 d (sub1 d hd)
          · show get (put f2 c t) d = get f d
            have : d ≠ c := fun z => by
              subst z
              obtain ⟨x', hx', hs⟩ := hS d hd
              rw [hg] at hx'; cases hx'
              have := G.shut S hS hs
              cases this
            rw [get_put_ne f2 t this]
            exact y4 S hS d hd
          · obtain ⟨x', hx', hs⟩ := hS c (hc c List.mem_cons_self)
            rw [hg] at hx'; cases hx'
            have := G.shut S hS hs
            cases this
        | false =>
          show Good mask U f t (c :: cs) tr (loopM rec t cs f2 tr2)
          obtain ⟨n1, n2, n3⟩ := G.no rfl
          have n1 : f2 = f := n1
          subst n1
          have sub2 : ∀ d ∈ tr, d ∈ tr2 := fun d hd => G.sub d (sub1 d hd)
          have ih := loop_good rec R hU hrec t cs f2 tr2 hm' hf (Nat.le_trans (room_le sub2) hr)
          refine ⟨fun d hd => ih.sub d (sub2 d hd), fun d hd => ?_, fun h => ?_, fun h => ?_, fun S hS hc => ih.shut S hS fun d hd => hc d (List.mem_cons_of_mem _ hd)⟩
          · rcases ih.inU d hd with h | h
            · rcases G.inU d h with h | h
              · rcases List.mem_append.mp h with h | h
                · exact .inl h
                · have e : d = c := by simpa using h
                  subst e
                  exact .inr hcU
              · exact .inr h
            · exact .inr h
          · obtain ⟨a, b, e⟩ := ih.no h
            refine ⟨a, fun d hd => ?_, fun d hd hn => ?_⟩
            · rcases List.mem_cons.mp hd with rfl | hd
              · exact ih.sub _ (G.sub _ hc1)
              · exact b d hd
            · by_cases h2 : d ∈ tr2
              · by_cases h1 : d ∈ tr ++ [c]
                · rcases List.mem_append.mp h1 with h1 | h1
                  · exact absurd h1 hn
                  · have e : d = c := by simpa using h1
                    subst e
                    exact ⟨x, hg, fun z hz => ih.sub z (n2 z hz)⟩
                · obtain ⟨y, h3, h4⟩ := n3 d h2 h1
                  exact ⟨y, h3, fun z hz => ih.sub z (h4 z hz)⟩
              · exact e d hd h2
          · obtain ⟨a, b, e, g⟩ := ih.yes h
            exact ⟨a, b, fun d hd => e d (sub2 d hd), g⟩
theorem seat_good (hU : ∀ t, ∀ c ∈ mask t, c ∈ U) : ∀ (n : Nat) (f : List (C × T)) (t : T) (tr : List C), Fits mask f → room U tr ≤ n → Good mask U f t (mask t) tr (seatM mask n f t tr)
  | 0, f, t, tr, hf, hr => loop_good _ 0 hU (fun _ _ _ _ h => absurd h (Nat.not_lt_zero _)) t (mask t) f tr (fun _ h => h) hf hr
  | n + 1, f, t, tr, hf, hr => loop_good _ (n + 1) hU (fun f x tr hf h => seat_good hU n f x tr hf (Nat.le_of_lt_succ h)) t (mask t) f tr (fun _ h => h) hf hr
end
end Km
/-! The plain law, part 2: what a failed place tells; the most that can be seated; all seatings. -/
namespace Km
variable {C T : Type} [DecidableEq C] [DecidableEq T]

theorem inj_len {α β : Type} [DecidableEq β] (R : α → β → Prop) : ∀ (P : List α) (f : List β), P.Nodup → (∀ p ∈ P, ∃ q ∈ f, R p q) → (∀ p p' q, p ∈ P → p' ∈ P → R p q → R p' q → p = p') → P.length ≤ f.length
  | [], _, _, _, _ => Nat.zero_le _
  | p :: P, f, hn, h1, h2 => by
    rw [List.nodup_cons] at hn
    obtain ⟨q, hq, hr⟩ := h1 p List.mem_cons_self
    have ih := inj_len R P (f.erase q) hn.2 (fun p' hp' => by
      obtain ⟨q', hq', hr'⟩ := h1 p' (List.mem_cons_of_mem _ hp')
      refine ⟨q', ?_, hr'⟩
      refine (List.mem_erase_of_ne ?_).mpr hq'
      intro e
      subst e
      have : p = p' := h2 p p' q' List.mem_cons_self (List.mem_cons_of_mem _ hp') hr hr'
      subst this
      exact hn.1 hp') (fun a b c ha hb => h2 a b c (List.mem_cons_of_mem _ ha) (List.mem_cons_of_mem _ hb))
    rw [List.length_erase_of_mem hq] at ih
    have : 0 < f.length := List.length_pos_of_mem hq
    rw [List.length_cons]
    omega
theorem nodup_len {α : Type} [DecidableEq α] {P f : List α} (hn : P.Nodup) (h : ∀ p ∈ P, p ∈ f) : P.length ≤ f.length :=
  inj_len (fun a b => a = b) P f hn (fun p hp => ⟨p, h p hp, rfl⟩) fun _ _ _ _ _ h h' => h.trans h'.symm
theorem nodup_of_map {α β : Type} (f : α → β) : ∀ {l : List α}, (l.map f).Nodup → l.Nodup
  | [], _ => List.nodup_nil
  | a :: l, h => by
    rw [List.map_cons, List.nodup_cons] at h
    exact List.nodup_cons.mpr ⟨fun m => h.1 (List.mem_map.mpr ⟨a, m, rfl⟩), nodup_of_map f h.2⟩
theorem map_inj {α β : Type} (f : α → β) : ∀ {l : List α}, (l.map f).Nodup → ∀ a ∈ l, ∀ b ∈ l, f a = f b → a = b
  | [], _, a, ha, _, _, _ => by simp at ha
  | c :: l, h, a, ha, b, hb, e => by
    rw [List.map_cons, List.nodup_cons] at h
    rcases List.mem_cons.mp ha with q | ha
    · rcases List.mem_cons.mp hb with q' | hb
      · rw [q, q']
      · exact absurd (List.mem_map.mpr ⟨b, hb, by rw [← e, q]⟩) h.1
    · rcases List.mem_cons.mp hb with q' | hb
      · exact absurd (List.mem_map.mpr ⟨a, ha, by rw [e, q']⟩) h.1
      · exact map_inj f h.2 a ha b hb e

section
variable {mask : T → List C}
/-- no seating of such tasks has more -/
theorem bound {f P : List (C × T)} (hf : Fits mask f) (hP : Fits mask P) (hT : (P.map (·.2)).Nodup) {S : C → Prop} (hS : Shut mask S f)
    (h : ∀ p ∈ P, p.2 ∈ f.map (·.2) ∨ ∀ d ∈ mask p.2, S d) : P.length ≤ f.length := by
  refine inj_len (fun p q => (S p.1 ∧ q.1 = p.1 ∧ ∀ d ∈ mask q.2, S d) ∨ (¬ S p.1 ∧ q.2 = p.2)) P f (nodup_of_map _ hP.nd) (fun p hp => ?_) fun p p' q hp hp' r r' => ?_
  · by_cases s : S p.1
    · obtain ⟨x, hx, hd⟩ := hS p.1 s
      exact ⟨(p.1, x), mem_of_get hx, .inl ⟨s, rfl, hd⟩⟩
    · rcases h p hp with h | h
      · obtain ⟨q, hq, e⟩ := List.mem_map.mp h
        exact ⟨q, hq, .inr ⟨s, e⟩⟩
      · exact absurd (h p.1 (hP.may p hp)) s
  · rcases r with ⟨s, e, m⟩ | ⟨s, e⟩
    · rcases r' with ⟨s', e', _⟩ | ⟨s', e'⟩
      · exact map_inj (·.1) hP.nd p hp p' hp' (e.symm.trans e')
      · exfalso
        refine s' (m p'.1 ?_)
        rw [e']
        exact hP.may p' hp'
    · rcases r' with ⟨s', e', m'⟩ | ⟨s', e'⟩
      · exfalso
        refine s (m' p.1 ?_)
        rw [e]
        exact hP.may p hp
      · exact map_inj (·.2) hT p hp p' hp' (e.symm.trans e')

def matchM (mask : T → List C) (n : Nat) : List T → List (C × T) → Option (List (C × T))
  | [], f => some f
  | t :: ts, f => match seatM mask n f t [] with
    | (true, f2, _) => matchM mask n ts f2
    | (false, _, _) => none
def mostM (mask : T → List C) (n : Nat) : List T → List (C × T) → Nat × List (C × T)
  | [], f => (0, f)
  | t :: ts, f => match seatM mask n f t [] with
    | (true, f2, _) => ((mostM mask n ts f2).1 + 1, (mostM mask n ts f2).2)
    | (false, f2, _) => mostM mask n ts f2

variable {U : List C} {n : Nat}
theorem room_nil (h : U.length ≤ n) : room U ([] : List C) ≤ n := by
  unfold room
  exact Nat.le_trans (List.length_filter_le _ _) h
theorem match_some (hU : ∀ t, ∀ c ∈ mask t, c ∈ U) (hn : U.length ≤ n) : ∀ (ts : List T) (f g : List (C × T)), Fits mask f → matchM mask n ts f = some g → Fits mask g ∧ (g.map (·.2)).Perm (ts ++ f.map (·.2))
  | [], f, g, hf, h => by
    cases h
    exact ⟨hf, List.Perm.refl _⟩
  | t :: ts, f, g, hf, h => by
    have G := seat_good hU n f t [] hf (room_nil hn)
    unfold matchM at h
    generalize seatM mask n f t [] = r at G h
    obtain ⟨ok, f2, tr⟩ := r
    cases ok with
    | false => cases h
    | true =>
      obtain ⟨y1, y2, _⟩ := G.yes rfl
      have h : matchM mask n ts f2 = some g := h
      obtain ⟨a, b⟩ := match_some hU hn ts f2 g y1 h
      refine ⟨a, b.trans ?_⟩
      have y2 : (f2.map (·.2)).Perm (t :: f.map (·.2)) := y2
      exact (y2.append_left ts).trans List.perm_middle
theorem shut_of {f : List (C × T)} {t : T} {r : Res C T} (G : Good mask U f t (mask t) [] r) (h : r.1 = false) : Shut mask (fun c => c ∈ r.2.2) f ∧ (∀ d ∈ mask t, d ∈ r.2.2) ∧ r.2.1 = f := by
  obtain ⟨a, b, c⟩ := G.no h
  exact ⟨fun d hd => c d hd (by simp), b, a⟩
theorem match_none (hU : ∀ t, ∀ c ∈ mask t, c ∈ U) (hn : U.length ≤ n) : ∀ (ts : List T) (f : List (C × T)), Fits mask f → (f.map (·.2) ++ ts).Nodup → matchM mask n ts f = none →
    ∀ P : List (C × T), Fits mask P → (P.map (·.2)).Nodup → (∀ t ∈ f.map (·.2) ++ ts, t ∈ P.map (·.2)) → False
  | [], f, hf, _, h, P, _, _, _ => by cases h
  | t :: ts, f, hf, nd, h, P, hP, hT, hall => by
    have G := seat_good hU n f t [] hf (room_nil hn)
    unfold matchM at h
    generalize seatM mask n f t [] = r at G h
    obtain ⟨ok, f2, tr⟩ := r
    cases ok with
    | true =>
      obtain ⟨y1, y2, _⟩ := G.yes rfl
      have h : matchM mask n ts f2 = none := h
      have y2 : (f2.map (·.2)).Perm (t :: f.map (·.2)) := y2
      have pm : (f2.map (·.2) ++ ts).Perm (f.map (·.2) ++ t :: ts) := (y2.append_right ts).trans List.perm_middle.symm
      exact match_none hU hn ts f2 y1 (pm.nodup_iff.mpr nd) h P hP hT fun x hx => hall x (pm.mem_iff.mp hx)
    | false =>
      obtain ⟨s1, s2, _⟩ := shut_of G rfl
      have nd' : (t :: f.map (·.2)).Nodup := (List.perm_middle.nodup_iff.mp nd).sublist (by simp)
      have pP : ∀ p ∈ P.filter fun p => decide (p.2 ∈ t :: f.map (·.2)), p ∈ P ∧ p.2 ∈ t :: f.map (·.2) := fun p hp => by simpa using List.mem_filter.mp hp
      have sl : (P.filter fun p => decide (p.2 ∈ t :: f.map (·.2))).Sublist P := List.filter_sublist
      have le := bound (f := f) (P := P.filter fun p => decide (p.2 ∈ t :: f.map (·.2))) hf ⟨hP.nd.sublist (sl.map _), fun p hp => hP.may p (pP p hp).1⟩ (hT.sublist (sl.map _)) s1 fun p hp => by
        rcases List.mem_cons.mp (pP p hp).2 with e | e
        · exact .inr (by rw [e]; exact s2)
        · exact .inl e
      have ge : (t :: f.map (·.2)).length ≤ ((P.filter fun p => decide (p.2 ∈ t :: f.map (·.2))).map (·.2)).length := nodup_len nd' fun x hx => by
        have hx' : x ∈ f.map (·.2) ++ t :: ts := List.perm_middle.mem_iff.mpr (by
          rcases List.mem_cons.mp hx with rfl | hx
          · exact List.mem_cons_self
          · exact List.mem_cons_of_mem _ (List.mem_append_left _ hx))
        obtain ⟨p, hp, e⟩ := List.mem_map.mp (hall x hx')
        refine List.mem_map.mpr ⟨p, List.mem_filter.mpr ⟨hp, ?_⟩, e⟩
        rw [e]
        exact decide_eq_true hx
      rw [List.length_map, List.length_cons, List.length_map] at ge
      omega
theorem most_ok (hU : ∀ t, ∀ c ∈ mask t, c ∈ U) (hn : U.length ≤ n) : ∀ (ts : List T) (f : List (C × T)) (S0 : C → Prop), Fits mask f → (f.map (·.2) ++ ts).Nodup → Shut mask S0 f →
    ∃ S : C → Prop, (∀ c, S0 c → S c) ∧ Fits mask (mostM mask n ts f).2 ∧ (mostM mask n ts f).2.length = f.length + (mostM mask n ts f).1 ∧ Shut mask S (mostM mask n ts f).2 ∧
      (∀ t ∈ ts, t ∈ (mostM mask n ts f).2.map (·.2) ∨ ∀ d ∈ mask t, S d) ∧ ((mostM mask n ts f).2.map (·.2)).Nodup ∧ (∀ t ∈ (mostM mask n ts f).2.map (·.2), t ∈ f.map (·.2) ++ ts) ∧
      ∀ t ∈ f.map (·.2), t ∈ (mostM mask n ts f).2.map (·.2)
  | [], f, S0, hf, nd, hS => ⟨S0, fun _ h => h, hf, rfl, hS, fun _ h => (by simp at h), (by rw [List.append_nil] at nd; exact nd), fun t ht => List.mem_append_left _ ht, fun _ h => h⟩
  | t :: ts, f, S0, hf, nd, hS => by
    have G := seat_good hU n f t [] hf (room_nil hn)
    unfold mostM
    generalize seatM mask n f t [] = r at G
    obtain ⟨ok, f2, tr⟩ := r
    cases ok with
    | true =>
      obtain ⟨y1, y2, _, y4⟩ := G.yes rfl
      have y2 : (f2.map (·.2)).Perm (t :: f.map (·.2)) := y2
      have y4 : ∀ S, Shut mask S f → ∀ c, S c → get f2 c = get f c := y4
      have pm : (f2.map (·.2) ++ ts).Perm (f.map (·.2) ++ t :: ts) := (y2.append_right ts).trans List.perm_middle.symm
      have len : f2.length = f.length + 1 := by
        have := y2.length_eq
        simpa using this
      obtain ⟨S, a, b, c, d, e, g, h, i⟩ := most_ok hU hn ts f2 S0 y1 (pm.nodup_iff.mpr nd) fun c hc => by
        obtain ⟨x, hx, hd⟩ := hS c hc
        exact ⟨x, (y4 S0 hS c hc).trans hx, hd⟩
      refine ⟨S, a, b, ?_, d, fun x hx => ?_, g, fun x hx => pm.mem_iff.mp (h x hx), fun x hx => i x (y2.mem_iff.mpr (List.mem_cons_of_mem _ hx))⟩
      · show (mostM mask n ts f2).2.length = f.length + ((mostM mask n ts f2).1 + 1)
        omega
      · rcases List.mem_cons.mp hx with rfl | hx
        · exact .inl (i x (y2.mem_iff.mpr List.mem_cons_self))
        · exact e x hx
    | false =>
      obtain ⟨s1, s2, s3⟩ := shut_of G rfl
      have s3 : f2 = f := s3
      subst s3
      have nd' : (f2.map (·.2) ++ ts).Nodup := nd.sublist (by simp)
      obtain ⟨S, a, b, c, d, e, g, h, i⟩ := most_ok hU hn ts f2 (fun c => S0 c ∨ c ∈ tr) hf nd' fun c hc => by
        rcases hc with hc | hc
        · obtain ⟨x, hx, hd⟩ := hS c hc
          exact ⟨x, hx, fun z hz => .inl (hd z hz)⟩
        · obtain ⟨x, hx, hd⟩ := s1 c hc
          exact ⟨x, hx, fun z hz => .inr (hd z hz)⟩
      refine ⟨S, fun c hc => a c (.inl hc), b, c, d, fun x hx => ?_, g, fun x hx => ?_, i⟩
      · rcases List.mem_cons.mp hx with rfl | hx
        · exact .inr fun z hz => a z (.inr (s2 z hz))
        · exact e x hx
      · rcases List.mem_append.mp (h x hx) with q | q
        · exact List.mem_append_left _ q
        · exact List.mem_append_right _ (List.mem_cons_of_mem _ q)
end

/-! ### all seatings -/
def rowsM : List (T × List C) → List (List (C × T)) → List (List (C × T))
  | [], found => found
  | (own, m) :: r, found => rowsM r (found.flatMap fun bits => bits :: ((m.filter fun b => decide (b ∉ bits.map (·.1))).map fun b => bits ++ [(b, own)]))
theorem rows_sound : ∀ (line : List (T × List C)) (found : List (List (C × T))) (bits : List (C × T)), bits ∈ rowsM line found →
    ∃ b0 ∈ found, ∃ ext, bits = b0 ++ ext ∧ ((b0.map (·.1)).Nodup → (bits.map (·.1)).Nodup) ∧ (ext.map (·.2)).Sublist (line.map (·.1)) ∧ ∀ p ∈ ext, ∃ m, (p.2, m) ∈ line ∧ p.1 ∈ m
  | [], found, bits, h => ⟨bits, h, [], by simp, fun h => h, by simp, fun p hp => by simp at hp⟩
  | (own, m) :: r, found, bits, h => by
    obtain ⟨b1, h1, ext, rfl, h2, h3, h4⟩ := rows_sound r _ bits h
    obtain ⟨b0, hb0, h1⟩ := List.mem_flatMap.mp h1
    rcases List.mem_cons.mp h1 with rfl | h1
    · exact ⟨b1, hb0, ext, rfl, h2, h3.trans (List.sublist_cons_self _ _), fun p hp => by
        obtain ⟨m', a, b⟩ := h4 p hp
        exact ⟨m', List.mem_cons_of_mem _ a, b⟩⟩
    · obtain ⟨b, hb, rfl⟩ := List.mem_map.mp h1
      obtain ⟨hbm, hbn⟩ := List.mem_filter.mp hb
      refine ⟨b0, hb0, (b, own) :: ext, by simp, fun hn => h2 ?_, ?_, fun p hp => ?_⟩
      · rw [List.map_append]
        refine List.nodup_append.mpr ⟨hn, by simp, ?_⟩
        intro x hx y hy e
        simp at hy
        subst hy
        subst e
        exact of_decide_eq_true hbn hx
      · rw [List.map_cons, List.map_cons]
        exact h3.cons_cons _
      · rcases List.mem_cons.mp hp with rfl | hp
        · exact ⟨m, List.mem_cons_self, hbm⟩
        · obtain ⟨m', a, b⟩ := h4 p hp
          exact ⟨m', List.mem_cons_of_mem _ a, b⟩
/-- where a task stands -/
def cpuOf (g : List (C × T)) (t : T) : Option C := (g.find? fun p => decide (p.2 = t)).map (·.1)
theorem cpuOf_mem {g : List (C × T)} {t : T} {c : C} (h : cpuOf g t = some c) : (c, t) ∈ g := by
  unfold cpuOf at h
  cases e : g.find? fun p => decide (p.2 = t) with
  | none => rw [e] at h; cases h
  | some p =>
    rw [e] at h
    cases h
    have := List.find?_some e
    have e2 : p.2 = t := of_decide_eq_true this
    have := List.mem_of_find?_eq_some e
    rw [← e2]
    exact this
theorem cpuOf_some {g : List (C × T)} {t : T} (h : t ∈ g.map (·.2)) : ∃ c, cpuOf g t = some c := by
  obtain ⟨p, hp, e⟩ := List.mem_map.mp h
  unfold cpuOf
  cases q : g.find? fun p => decide (p.2 = t) with
  | none => exact absurd (decide_eq_true e) (by simpa using (List.find?_eq_none.mp q) p hp)
  | some p' => exact ⟨p'.1, rfl⟩
/-- the pairs of g, in the line's order -/
def arr (g : List (C × T)) (line : List (T × List C)) : List (C × T) := line.filterMap fun tm => (cpuOf g tm.1).map fun c => (c, tm.1)
theorem arr_cons (g : List (C × T)) (tm : T × List C) (line : List (T × List C)) : arr g (tm :: line) = match cpuOf g tm.1 with
    | some c => (c, tm.1) :: arr g line
    | none => arr g line := by
  unfold arr
  rw [List.filterMap_cons]
  cases cpuOf g tm.1 <;> rfl
theorem rows_full (g : List (C × T)) (hg : (g.map (·.1)).Nodup) : ∀ (line : List (T × List C)) (found : List (List (C × T))) (b0 : List (C × T)), b0 ∈ found → (line.map (·.1)).Nodup →
    (∀ tm ∈ line, ∀ c, cpuOf g tm.1 = some c → c ∈ tm.2) → (∀ p ∈ b0, p ∈ g ∧ p.2 ∉ line.map (·.1)) → b0 ++ arr g line ∈ rowsM line found
  | [], found, b0, h, _, _, _ => by simpa [arr, rowsM] using h
  | (own, m) :: r, found, b0, h, hn, hm, hb => by
    rw [List.map_cons, List.nodup_cons] at hn
    rw [arr_cons]
    unfold rowsM
    cases e : cpuOf g own with
    | none =>
      simp only [e]
      refine rows_full g hg r _ b0 ?_ hn.2 (fun tm h => hm tm (List.mem_cons_of_mem _ h)) fun p hp => ⟨(hb p hp).1, fun z => (hb p hp).2 (List.mem_cons_of_mem _ z)⟩
      exact List.mem_flatMap.mpr ⟨b0, h, List.mem_cons_self⟩
    | some c =>
      simp only [e]
      have hc : (c, own) ∈ g := cpuOf_mem e
      have := rows_full g hg r (found.flatMap fun bits => bits :: ((m.filter fun b => decide (b ∉ bits.map (·.1))).map fun b => bits ++ [(b, own)])) (b0 ++ [(c, own)]) ?_ hn.2
        (fun tm h => hm tm (List.mem_cons_of_mem _ h)) fun p hp => ?_
      · simpa using this
      · refine List.mem_flatMap.mpr ⟨b0, h, List.mem_cons_of_mem _ (List.mem_map.mpr ⟨c, List.mem_filter.mpr ⟨hm (own, m) List.mem_cons_self c e, ?_⟩, rfl⟩)⟩
        refine decide_eq_true fun z => ?_
        obtain ⟨p, hp, e1⟩ := List.mem_map.mp z
        have : p = (c, own) := map_inj (·.1) hg p (hb p hp).1 (c, own) hc e1
        exact (hb p hp).2 (by rw [this]; exact List.mem_cons_self)
      · rcases List.mem_append.mp hp with hp | hp
        · exact ⟨(hb p hp).1, fun z => (hb p hp).2 (List.mem_cons_of_mem _ z)⟩
        · have e1 : p = (c, own) := by simpa using hp
          subst e1
          exact ⟨hc, hn.1⟩
theorem perm_of_mem {α : Type} [DecidableEq α] {l l' : List α} (h : l.Nodup) (h' : l'.Nodup) (m : ∀ a, a ∈ l ↔ a ∈ l') : l.Perm l' := by
  rw [List.perm_iff_count]
  intro a
  rw [h.count, h'.count]
  by_cases q : a ∈ l
  · rw [if_pos q, if_pos ((m a).mp q)]
  · rw [if_neg q, if_neg fun z => q ((m a).mpr z)]
theorem arr_mem {g : List (C × T)} (hT : (g.map (·.2)).Nodup) {line : List (T × List C)} (p : C × T) : p ∈ arr g line ↔ p ∈ g ∧ p.2 ∈ line.map (·.1) := by
  unfold arr
  rw [List.mem_filterMap]
  constructor
  · rintro ⟨tm, h1, h2⟩
    cases e : cpuOf g tm.1 with
    | none => rw [e] at h2; cases h2
    | some c =>
      rw [e] at h2
      cases h2
      exact ⟨cpuOf_mem e, List.mem_map.mpr ⟨tm, h1, rfl⟩⟩
  · rintro ⟨h1, h2⟩
    obtain ⟨tm, h3, e⟩ := List.mem_map.mp h2
    obtain ⟨c, hc⟩ := cpuOf_some (g := g) (t := p.2) (List.mem_map.mpr ⟨p, h1, rfl⟩)
    refine ⟨tm, h3, ?_⟩
    have e : tm.1 = p.2 := e
    rw [e, hc]
    have := map_inj (·.2) hT (c, p.2) (cpuOf_mem hc) p h1 rfl
    exact congrArg some this
theorem arr_tasks (g : List (C × T)) : ∀ line : List (T × List C), ((arr g line).map (·.2)).Sublist (line.map (·.1))
  | [] => by simp [arr]
  | tm :: line => by
    rw [arr_cons]
    cases cpuOf g tm.1 with
    | none => exact (arr_tasks g line).trans (List.sublist_cons_self _ _)
    | some c =>
      show (tm.1 :: (arr g line).map (·.2)).Sublist (tm.1 :: line.map (·.1))
      exact (arr_tasks g line).cons_cons _
theorem arr_perm {g : List (C × T)} (hT : (g.map (·.2)).Nodup) {line : List (T × List C)} (hl : (line.map (·.1)).Nodup) (h : ∀ t ∈ g.map (·.2), t ∈ line.map (·.1)) : (arr g line).Perm g := by
  refine perm_of_mem (nodup_of_map (·.2) (hl.sublist (arr_tasks g line))) (nodup_of_map (·.2) hT) fun p => ?_
  rw [arr_mem hT]
  exact ⟨fun q => q.1, fun q => ⟨q, h p.2 (List.mem_map.mpr ⟨p, q, rfl⟩)⟩⟩
end Km
set_option maxHeartbeats 2000000
/-! Readings as what must hold (WE, ..), and what an expression is worth as data, whatever heap comes (ED, ..). -/
namespace L2
open PySem PySem.Spec PyProof.Rows
theorem Same.some {H H2 : Hp} (s : Same H H2) {b : Addr} (h : H b ≠ none) : H2 b ≠ none := fun z => by
  cases q : H b with
  | none => exact h q
  | some o =>
    rw [s b o q] at z
    cases z
theorem Same.laid {H : Hp} {p : Addr} {o : HO} (h : H p = none) : Same H (upd H p o) := fun b x e => by
  rw [upd_ne (ne_of_none e h)]
  exact e
theorem Same.laid2 {G H : Hp} {p : Addr} {o : HO} (s : Same G H) : Same (upd G p o) (upd H p o) := fun b x e => by
  by_cases h : b = p
  · subst h
    rw [upd_same] at e ⊢
    exact e
  · rw [upd_ne h] at e ⊢
    exact s b x e
theorem Same.mut {G H : Hp} {p : Addr} {o : HO} (s : Same G H) (h : G p = none) : Same G (upd H p o) := fun b x e => by
  rw [upd_ne (ne_of_none e h)]
  exact s b x e
theorem Same.fresh {G H : Hp} {p : Addr} (s : Same G H) (h : H p = none) : G p = none := s.free h
theorem Same.seqT {K : PySem.W.Frag} {H H' : Hp} {a : Addr} {xs : List V} (e : Same H H') (h : SqT K H a xs) : SqT K H' a xs := by
  rcases h with (h | ⟨o, h⟩) | h
  · exact .inl (.inl (e _ _ h))
  · exact .inl (.inr ⟨o, e _ _ h⟩)
  · exact .inr h
theorem Rd.up {G G2 : Hp} {a : Addr} {u : HO} (s : Same G G2) (h : Rd G a u) : Rd G2 a u := by
  rcases h with h | ⟨o, h⟩
  · exact .inl (s _ _ h)
  · exact .inr ⟨o, s _ _ h⟩
/-! data whose lists and tuples are tracked -/
mutual
inductive Dq (H : Hp) : V → PyData → Prop
  | non : Dq H .non .none
  | bl (b : Bool) : Dq H (.bl b) (.bool b)
  | int (i : Int) : Dq H (.int i) (.int i)
  | str (x : Str) : Dq H (.str x) (.str x)
  | lst {a : Addr} {xs : List V} {ds : List PyData} : H a = some (.lst xs) → DqAll H xs ds → Dq H (.ref a) (.list ds)
  | tupR {a : Addr} {xs : List V} {ds : List PyData} : Rd H a (.tup xs) → DqAll H xs ds → Dq H (.ref a) (.tuple ds)
inductive DqAll (H : Hp) : List V → List PyData → Prop
  | nil : DqAll H [] []
  | cons {v : V} {vs : List V} {d : PyData} {ds : List PyData} : Dq H v d → DqAll H vs ds → DqAll H (v :: vs) (d :: ds)
end
mutual
theorem Dq.dp {K : PySem.W.Frag} {H : Hp} : ∀ (d : PyData) (v : V), Dq H v d → Dp K H v d
  | .none, _, h => by cases h; exact .non
  | .bool b, _, h => by cases h; exact .bl b
  | .int i, _, h => by cases h; exact .int i
  | .str x, _, h => by cases h; exact .str x
  | .list ds, _, h => by
    cases h with
    | lst h1 h2 => exact .lst (.of h1) (Dq.dpAll ds _ h2)
  | .tuple ds, _, h => by
    cases h with
    | tupR h1 h2 => exact .tup (.inl h1) (Dq.dpAll ds _ h2)
  | .dict _, _, h => by cases h
theorem Dq.dpAll {K : PySem.W.Frag} {H : Hp} : ∀ (ds : List PyData) (vs : List V), DqAll H vs ds → DpAll K H vs ds
  | [], _, h => by cases h; exact .nil
  | d :: ds, _, h => by
    cases h with
    | cons h1 h2 => exact .cons (Dq.dp d _ h1) (Dq.dpAll ds _ h2)
end
mutual
theorem Dq.mono {G G2 : Hp} (s : Same G G2) : ∀ (d : PyData) (v : V), Dq G v d → Dq G2 v d
  | .none, _, h => by cases h; exact .non
  | .bool b, _, h => by cases h; exact .bl b
  | .int i, _, h => by cases h; exact .int i
  | .str x, _, h => by cases h; exact .str x
  | .list ds, _, h => by
    cases h with
    | lst h1 h2 => exact .lst (s _ _ h1) (Dq.monoAll s ds _ h2)
  | .tuple ds, _, h => by
    cases h with
    | tupR h1 h2 => exact .tupR (h1.up s) (Dq.monoAll s ds _ h2)
  | .dict _, _, h => by cases h
theorem Dq.monoAll {G G2 : Hp} (s : Same G G2) : ∀ (ds : List PyData) (vs : List V), DqAll G vs ds → DqAll G2 vs ds
  | [], _, h => by cases h; exact .nil
  | d :: ds, _, h => by
    cases h with
    | cons h1 h2 => exact .cons (Dq.mono s d _ h1) (Dq.monoAll s ds _ h2)
end
theorem Dq.up {G G2 : Hp} {d : PyData} {v : V} (h : Dq G v d) (s : Same G G2) : Dq G2 v d := Dq.mono s d v h
theorem DqAll.up {G G2 : Hp} {ds : List PyData} {vs : List V} (h : DqAll G vs ds) (s : Same G G2) : DqAll G2 vs ds := Dq.monoAll s ds vs h
theorem DqAll.length {G : Hp} : ∀ {vs : List V} {ds : List PyData}, DqAll G vs ds → vs.length = ds.length
  | _, _, .nil => rfl
  | _, _, .cons _ t => by rw [List.length_cons, List.length_cons, DqAll.length t]
theorem DqAll.get {G : Hp} : ∀ {vs : List V} {ds : List PyData} {i : Nat} {d : PyData}, DqAll G vs ds → ds[i]? = some d → ∃ v, vs[i]? = some v ∧ Dq G v d
  | _, _, _, _, .nil, e => by simp at e
  | _, _, 0, _, .cons h _, e => by
    simp at e
    subst e
    exact ⟨_, rfl, h⟩
  | _, _, i + 1, d, .cons _ t, e => by
    obtain ⟨v, h1, h2⟩ := DqAll.get (i := i) (d := d) t (by simpa using e)
    exact ⟨v, by simpa using h1, h2⟩
theorem DqAll.snoc {G : Hp} {v : V} {d : PyData} (h : Dq G v d) : ∀ {vs : List V} {ds : List PyData}, DqAll G vs ds → DqAll G (vs ++ [v]) (ds ++ [d])
  | _, _, .nil => .cons h .nil
  | _, _, .cons h1 t => .cons h1 (DqAll.snoc h t)
theorem DqAll.append {G : Hp} {ws : List V} {es : List PyData} (h : DqAll G ws es) : ∀ {vs : List V} {ds : List PyData}, DqAll G vs ds → DqAll G (vs ++ ws) (ds ++ es)
  | _, _, .nil => h
  | _, _, .cons h1 t => .cons h1 (DqAll.append h t)
theorem DqAll.take {G : Hp} : ∀ {vs : List V} {ds : List PyData} (n : Nat), DqAll G vs ds → DqAll G (vs.take n) (ds.take n)
  | _, _, 0, _ => .nil
  | _, _, _ + 1, .nil => .nil
  | _, _, n + 1, .cons h t => .cons h (DqAll.take n t)
theorem DqAll.drop {G : Hp} : ∀ {vs : List V} {ds : List PyData} (n : Nat), DqAll G vs ds → DqAll G (vs.drop n) (ds.drop n)
  | _, _, 0, h => h
  | _, _, _ + 1, .nil => .nil
  | _, _, n + 1, .cons _ t => DqAll.drop n t
theorem DqAll.set {G : Hp} {v : V} {d : PyData} (h : Dq G v d) : ∀ {vs : List V} {ds : List PyData} (n : Nat), DqAll G vs ds → DqAll G (vs.set n v) (ds.set n d)
  | _, _, _, .nil => .nil
  | _, _, 0, .cons _ t => .cons h t
  | _, _, n + 1, .cons h1 t => .cons h1 (DqAll.set h n t)
theorem DqAll.erase {G : Hp} : ∀ {vs : List V} {ds : List PyData} (n : Nat), DqAll G vs ds → DqAll G (vs.eraseIdx n) (ds.eraseIdx n)
  | _, _, _, .nil => .nil
  | _, _, 0, .cons _ t => t
  | _, _, n + 1, .cons h1 t => .cons h1 (DqAll.erase n t)
theorem DqAll.strs {G : Hp} : ∀ (xs : List Str), DqAll G (xs.map V.str) (xs.map PyData.str)
  | [] => .nil
  | x :: xs => .cons (.str x) (DqAll.strs xs)
theorem DqAll.ints {G : Hp} : ∀ (xs : List Int), DqAll G (xs.map V.int) (xs.map PyData.int)
  | [] => .nil
  | x :: xs => .cons (.int x) (DqAll.ints xs)
theorem DqAll.bls {G : Hp} : ∀ (xs : List Bool), DqAll G (xs.map V.bl) (xs.map PyData.bool)
  | [] => .nil
  | x :: xs => .cons (.bl x) (DqAll.bls xs)
theorem DqAll.of_strs {G : Hp} : ∀ {xs : List Str} {vs : List V}, DqAll G vs (xs.map PyData.str) → vs = xs.map V.str
  | [], _, h => by cases h; rfl
  | x :: xs, _, h => by
    cases h with
    | cons h1 h2 =>
      cases h1
      rw [DqAll.of_strs h2]
      rfl
theorem DqAll.of_ints {G : Hp} : ∀ {xs : List Int} {vs : List V}, DqAll G vs (xs.map PyData.int) → vs = xs.map V.int
  | [], _, h => by cases h; rfl
  | x :: xs, _, h => by
    cases h with
    | cons h1 h2 =>
      cases h1
      rw [DqAll.of_ints h2]
      rfl
theorem DqAll.of_bls {G : Hp} : ∀ {xs : List Bool} {vs : List V}, DqAll G vs (xs.map PyData.bool) → vs = xs.map V.bl
  | [], _, h => by cases h; rfl
  | x :: xs, _, h => by
    cases h with
    | cons h1 h2 =>
      cases h1
      rw [DqAll.of_bls h2]
      rfl
/-- the items of a list or a tuple -/
def seqOf : PyData → Option (List PyData)
  | .list ds => some ds
  | .tuple ds => some ds
  | _ => none
theorem Dq.seq {G : Hp} {v : V} {d : PyData} {ds : List PyData} (h : Dq G v d) (e : seqOf d = some ds) : ∃ a xs, v = .ref a ∧ DqAll G xs ds ∧ ((d = .list ds ∧ G a = some (.lst xs)) ∨ (d = .tuple ds ∧ Rd G a (.tup xs))) := by
  cases h with
  | lst h1 h2 =>
    cases e
    exact ⟨_, _, rfl, h2, .inl ⟨rfl, h1⟩⟩
  | tupR h1 h2 =>
    cases e
    exact ⟨_, _, rfl, h2, .inr ⟨rfl, h1⟩⟩
  | _ => cases e
end L2
namespace Wk
open PySem PySem.Spec PyProof.Rows L2
abbrev St := L2.St

/-! ### semantic readings -/
structure WE (X : Cx) (e : Expr) (σ : St) (H : Hp) (Q : VK) : Prop where
  run : ∀ pins s, Inv X pins σ H s → wpAny (model X.prog X.w) X.A (eval e X.env) (EP X pins σ Q) X.xe s
structure WT (X : Cx) (e : Expr) (σ : St) (H : Hp) (Q : Bool → Hp → Prop) : Prop where
  run : ∀ pins s, Inv X pins σ H s → wpAny (model X.prog X.w) X.A (isTrue e X.env (eval e X.env)) (TP X pins σ Q) X.xe s
structure WW (X : Cx) (e : Expr) (σ : St) (H : Hp) (Q : Bool → Hp → Prop) : Prop where
  run : ∀ whole pins s, Inv X pins σ H s → wpAny (model X.prog X.w) X.A (isTrue e X.env whole) (TP X pins σ Q) X.xe s
structure WA (X : Cx) (es : List Expr) (σ : St) (H : Hp) (Q : List V → Hp → Prop) : Prop where
  run : ∀ pos pins s, Inv X pins σ H s → wpAny (model X.prog X.w) X.A (spliced (backTo pos (starEach es X.env))) (AP X pins σ Q) X.xe s
structure WS (X : Cx) (st : Stmt) (D : Ends) (σ : St) (H : Hp) : Prop where
  run : ∀ pins s, Inv X pins σ H s → wpAny (model X.prog X.w) X.A (exec st X.env) (SP X pins D) X.xe s
structure WB (X : Cx) (st : List Stmt) (D : Ends) (σ : St) (H : Hp) : Prop where
  run : ∀ pins s, Inv X pins σ H s → wpAny (model X.prog X.w) X.A (execs st X.env) (SP X pins D) X.xe s
structure WI (X : Cx) (tg iter : Expr) (σ : St) (H : Hp) (R : It → Hp → Prop) : Prop where
  run : ∀ pins s, Inv X pins σ H s → wpAny (model X.prog X.w) X.A (eval iter X.env) (fun v s1 => wpAny (model X.prog X.w) X.A (pyIter v) (PIE X pins σ tg R) X.xe s1) X.xe s
structure WG (X : Cx) (tg : Expr) (v : V) (σ : St) (H : Hp) (Q : St → Hp → Prop) : Prop where
  run : ∀ pins s u, Inv X pins σ H s → RelV v u → wpAny (model X.prog X.w) X.A (assign tg X.env u) (fun _ s' => ∃ σ' H', Inv X pins σ' H' s' ∧ Q σ' H') X.xe s
structure WK (X : Cx) (kws : List Keyword) (σ : St) (H : Hp) (Q : List V → Hp → Prop) : Prop where
  run : ∀ pos pins s, Inv X pins σ H s → wpAny (model X.prog X.w) X.A (evalAll ((backToKw pos (keywordEach kws X.env)).map (·.2))) (AP X pins σ Q) X.xe s
section
variable {X : Cx} {e a b : Expr} {es : List Expr} {st : Stmt} {sts : List Stmt} {tg iter : Expr} {kws : List Keyword}
theorem pe : PE X e (WE X e) := ⟨fun pins s _ _ _ I h => h.run pins s I⟩
theorem pt : PT X e (WT X e) := ⟨fun pins s _ _ _ I h => h.run pins s I⟩
theorem pw : PW X e (WW X e) := ⟨fun whole pins s _ _ _ I h => h.run whole pins s I⟩
theorem pa : PA X es (WA X es) := ⟨fun pos pins s _ _ _ I h => h.run pos pins s I⟩
theorem ps : PS X st (WS X st) := ⟨fun pins s _ _ _ I h => h.run pins s I⟩
theorem pb : PSs X sts (WB X sts) := ⟨fun pins s _ _ _ I h => h.run pins s I⟩
theorem pi : PI X tg iter (WI X tg iter) := ⟨fun pins s _ _ _ I h => h.run pins s I⟩
theorem pg : PG X tg (WG X tg) := ⟨fun pins s _ _ v u _ I r h => h.run pins s u I r⟩
theorem pk : PK X kws (WK X kws) := ⟨fun pos pins s _ _ _ I h => h.run pos pins s I⟩
variable {σ : St} {H : Hp}
theorem we {te : TE} {Q : VK} (h : PE X e te) (q : te σ H Q) : WE X e σ H Q := ⟨fun pins s I => h.run pins s σ H Q I q⟩
theorem wt {t : TT} {Q : Bool → Hp → Prop} (h : PT X e t) (q : t σ H Q) : WT X e σ H Q := ⟨fun pins s I => h.run pins s σ H Q I q⟩
theorem ww {t : TT} {Q : Bool → Hp → Prop} (h : PW X e t) (q : t σ H Q) : WW X e σ H Q := ⟨fun whole pins s I => h.run whole pins s σ H Q I q⟩
theorem wa {t : TA} {Q : List V → Hp → Prop} (h : PA X es t) (q : t σ H Q) : WA X es σ H Q := ⟨fun pos pins s I => h.run pos pins s σ H Q I q⟩
theorem ws {t : TS} {D : Ends} (h : PS X st t) (q : t D σ H) : WS X st D σ H := ⟨fun pins s I => h.run pins s σ H D I q⟩
theorem wb {t : TS} {D : Ends} (h : PSs X sts t) (q : t D σ H) : WB X sts D σ H := ⟨fun pins s I => h.run pins s σ H D I q⟩
theorem wi {t : TI} {R : It → Hp → Prop} (h : PI X tg iter t) (q : t σ H R) : WI X tg iter σ H R := ⟨fun pins s I => h.run pins s σ H R I q⟩
theorem wg {t : TG} {v : V} {Q : St → Hp → Prop} (h : PG X tg t) (q : t v σ H Q) : WG X tg v σ H Q := ⟨fun pins s u I r => h.run pins s σ H v u Q I r q⟩
theorem wk {t : TA} {Q : List V → Hp → Prop} (h : PK X kws t) (q : t σ H Q) : WK X kws σ H Q := ⟨fun pos pins s I => h.run pos pins s σ H Q I q⟩
end

/-! ### heaps: G is what is known for good, within H -/
structure Ext (G H G2 H2 : Hp) : Prop where
  gg : Same G G2
  hh : Same H H2
  gh : Same G2 H2
  out : ∀ b, H b ≠ none → G b = none → G2 b = none
theorem Ext.refl {G H : Hp} (s : Same G H) : Ext G H G H := ⟨Same.refl _, Same.refl _, s, fun _ _ h => h⟩
theorem Ext.trans {G H G2 H2 G3 H3 : Hp} (a : Ext G H G2 H2) (b : Ext G2 H2 G3 H3) : Ext G H G3 H3 :=
  ⟨a.gg.trans b.gg, a.hh.trans b.hh, b.gh, fun x h1 h2 => b.out x (Same.some a.hh h1) (a.out x h1 h2)⟩
/-- a new object -/
theorem Ext.new {G H : Hp} {p : Addr} {o : HO} (s : Same G H) (h : H p = none) : Ext G H (upd G p o) (upd H p o) :=
  ⟨Same.laid (s.free h), Same.laid h, s.laid2, fun b h1 h2 => by
    have : b ≠ p := fun z => h1 (by rw [z]; exact h)
    rw [upd_ne this]
    exact h2⟩
def un (G1 G2 : Hp) : Hp := fun b => (G1 b).or (G2 b)
theorem un_left (G1 G2 : Hp) : Same G1 (un G1 G2) := fun b o h => by
  show (G1 b).or (G2 b) = some o
  rw [h]
  rfl
theorem un_into {G1 G2 H : Hp} (h1 : Same G1 H) (h2 : Same G2 H) : Same (un G1 G2) H := fun b o h => by
  have h : (G1 b).or (G2 b) = some o := h
  cases q : G1 b with
  | none =>
    rw [q] at h
    exact h2 b o h
  | some u =>
    rw [q] at h
    have e : u = o := Option.some.inj h
    subst e
    exact h1 b u q
theorem un_right {G1 G2 H : Hp} (h1 : Same G1 H) (h2 : Same G2 H) : Same G2 (un G1 G2) := fun b o h => by
  show (G1 b).or (G2 b) = some o
  cases q : G1 b with
  | none => exact h
  | some u =>
    have e : some u = some o := (h1 b u q).symm.trans (h2 b o h)
    exact e
theorem Ext.widen {G G1 H G2 H2 : Hp} (s : Same G G1) (s1 : Same G1 H) (x : Ext G H G2 H2) : Ext G1 H (un G1 G2) H2 :=
  ⟨un_left _ _, x.hh, un_into (s1.trans x.hh) x.gh, fun b h1 h2 => by
    show (G1 b).or (G2 b) = none
    rw [h2, x.out b h1 (s.free h2)]
    rfl⟩

/-! ### what an expression is worth -/
/-- what is to be done with a datum -/
def RD (G H : Hp) (d : PyData) (Q : VK) : Prop := ∀ v G2 H2, Ext G H G2 H2 → Dq G2 v d → Q v H2
def RDs (G H : Hp) (ds : List PyData) (Q : List V → Hp → Prop) : Prop := ∀ vs G2 H2, Ext G H G2 H2 → DqAll G2 vs ds → Q vs H2
def ED (X : Cx) (e : Expr) (σ : St) (G : Hp) (d : PyData) : Prop := ∀ H, Same G H → ∀ Q, RD G H d Q → WE X e σ H Q
def EDs (X : Cx) (es : List Expr) (σ : St) (G : Hp) (ds : List PyData) : Prop := ∀ H, Same G H → ∀ Q, RDs G H ds Q → WA X es σ H Q
def ET (X : Cx) (e : Expr) (σ : St) (G : Hp) (b : Bool) : Prop := ∀ H, Same G H → ∀ Q, (∀ G2 H2, Ext G H G2 H2 → Q b H2) → WT X e σ H Q
def EW (X : Cx) (e : Expr) (σ : St) (G : Hp) (b : Bool) : Prop := ∀ H, Same G H → ∀ Q, (∀ G2 H2, Ext G H G2 H2 → Q b H2) → WW X e σ H Q
def EK (X : Cx) (kws : List Keyword) (σ : St) (G : Hp) (ds : List PyData) : Prop := ∀ H, Same G H → ∀ Q, RDs G H ds Q → WK X kws σ H Q
theorem RD.ext {G H G2 H2 : Hp} {d : PyData} {Q : VK} (h : RD G H d Q) (x : Ext G H G2 H2) : RD G2 H2 d Q := fun v G3 H3 y p => h v G3 H3 (x.trans y) p
theorem RD.widen {G G1 H : Hp} {d : PyData} {Q : VK} (s : Same G G1) (s1 : Same G1 H) (h : RD G1 H d Q) : RD G H d Q := fun v G2 H2 x p =>
  h v _ H2 (x.widen s s1) (p.up (un_right (s1.trans x.hh) x.gh))
theorem RDs.widen {G G1 H : Hp} {d : List PyData} {Q : List V → Hp → Prop} (s : Same G G1) (s1 : Same G1 H) (h : RDs G1 H d Q) : RDs G H d Q := fun v G2 H2 x p =>
  h v _ H2 (x.widen s s1) (p.up (un_right (s1.trans x.hh) x.gh))
section
variable {X : Cx} {e a b c : Expr} {es : List Expr} {σ : St} {G G1 H : Hp} {d da db dc : PyData} {ds : List PyData} {pos : Pos}
theorem ED.up (h : ED X e σ G d) (s : Same G G1) : ED X e σ G1 d := fun H s1 Q q => h H (s.trans s1) Q (RD.widen s s1 q)
theorem EDs.up (h : EDs X es σ G ds) (s : Same G G1) : EDs X es σ G1 ds := fun H s1 Q q => h H (s.trans s1) Q (RDs.widen s s1 q)
theorem ET.up {b : Bool} (h : ET X e σ G b) (s : Same G G1) : ET X e σ G1 b := fun H s1 Q q => h H (s.trans s1) Q fun _ _ x => q _ _ (x.widen s s1)
theorem ED.to {d' : PyData} (h : ED X e σ G d) (z : d = d') : ED X e σ G d' := z ▸ h
theorem ET.to {b b' : Bool} (h : ET X e σ G b) (z : b = b') : ET X e σ G b' := z ▸ h
/-- a known value, given back at once -/
theorem RD.now {Q : VK} {v : V} (q : RD G H d Q) (s : Same G H) (h : Dq G v d) : Q v H := q v G H (Ext.refl s) h
theorem ed_var (i : Nat) {x : Str} {v : V} (hs : σ[i]? = some (some v)) (h : Dq G v d) (hN : X.N[i]? = some x := by rfl)
    (hv : Vis X.env.scope x := by first | exact Or.inl rfl | exact Or.inr (Or.inl rfl) | exact Or.inr (Or.inr rfl)) (hd : (x == ("__debug__" : Str)) = false := by decide)
    (hcd : (x == ("__classdict__" : Str)) = false := by decide) : ED X (.Name x pos) σ G d := fun H s Q q =>
  we (pe_var hN hv hd hcd) ⟨v, hs, q.now s h⟩
theorem ed_int {i : Int} {j} : ED X (.Constant (.int i) j pos) σ G (.int i) := fun H s Q q => we pe_int (q.now s (.int i))
theorem ed_str {z : Str} {j} : ED X (.Constant (.str z) j pos) σ G (.str z) := fun H s Q q => we pe_str (q.now s (.str z))
theorem ed_bl {z : Bool} {j} : ED X (.Constant (.bool z) j pos) σ G (.bool z) := fun H s Q q => we pe_bl (q.now s (.bl z))
theorem ed_non {j} : ED X (.Constant .none j pos) σ G .none := fun H s Q q => we pe_non (q.now s .non)
theorem ed_glob {x : Str} {v : V} {u : Value} (hm : X.mg x = some u) (r : RelV v u) (h : Dq G v d) (hg : Gl X x := by rfl) (hd : (x == ("__debug__" : Str)) = false := by decide) : ED X (.Name x pos) σ G d := fun H s Q q =>
  we (pe_glob hg hm r hd) (q.now s h)
theorem eds_nil : EDs X [] σ G [] := fun H s Q q => wa pa_nil (q [] G H (Ext.refl s) .nil)
theorem eds_cons (ha : ED X e σ G d) (hr : EDs X es σ G ds) (hs : starEach (e :: es) X.env = (false, eval e X.env) :: starEach es X.env := by rfl) : EDs X (e :: es) σ G (d :: ds) := fun H s Q q =>
  wa (pa_cons pe pa hs) (ha H s _ fun v G2 H2 x p => hr.up x.gg H2 x.gh _ fun vs G3 H3 y ps => q (v :: vs) G3 H3 (x.trans y) (.cons (p.up y.gg) ps))
theorem ek_nil : EK X [] σ G [] := fun H s Q q => wk pk_nil (q [] G H (Ext.refl s) .nil)
theorem EK.up {kws : List Keyword} (h : EK X kws σ G ds) (s : Same G G1) : EK X kws σ G1 ds := fun H s1 Q q => h H (s.trans s1) Q (RDs.widen s s1 q)
theorem ek_cons {kws : List Keyword} {nm : Option Str} {kpos : Pos} (ha : ED X e σ G d) (hr : EK X kws σ G ds) : EK X (⟨nm, e, kpos⟩ :: kws) σ G (d :: ds) := fun H s Q q =>
  wk (pk_cons pe pk) (ha H s _ fun v G2 H2 x p => hr.up x.gg H2 x.gh _ fun vs G3 H3 y ps => q (v :: vs) G3 H3 (x.trans y) (.cons (p.up y.gg) ps))
theorem line (n : Nat) (h : n ≤ 100000) : n ≤ sizeLine := Nat.le_trans h (by decide)
theorem ed_tup {j} (h : EDs X es σ G ds) (hl : ds.length ≤ 100000 := by decide) : ED X (.Tuple es j pos) σ G (.tuple ds) := fun H s Q q =>
  we (pe_tup pa) (h H s _ fun vs G2 H2 x p => ⟨by rw [p.length]; exact line _ hl, fun a ha => q _ _ _ (x.trans (Ext.new x.gh ha)) (.tupR (.inl upd_same) (p.up (Same.laid (x.gh.free ha))))⟩)
theorem ed_lst (h : EDs X es σ G ds) (hl : ds.length ≤ 100000 := by decide) : ED X (.List es pos) σ G (.list ds) := fun H s Q q =>
  we (pe_lst pa) (h H s _ fun vs G2 H2 x p => ⟨by rw [p.length]; exact line _ hl, fun a ha => q _ _ _ (x.trans (Ext.new x.gh ha)) (.lst upd_same (p.up (Same.laid (x.gh.free ha))))⟩)
/-! ### operators by values -/
/-- what an operation by values gives, as data -/
def OpD (r : R2) (da db d : PyData) : Prop := ∀ G H x y Q, Same G H → Dq G x da → Dq G y db → RD G H d Q → r x y H Q
theorem ed_op {op : Operator} {r : R2} (ho : OpR X (binaryOp op) r) (hr : OpD r da db d) (ha : ED X a σ G da) (hb : ED X b σ G db) : ED X (.BinOp a op b pos) σ G d := fun H s Q q =>
  we (pe_op ho pe pe) (ha H s _ fun v G2 H2 x p => hb.up x.gg H2 x.gh _ fun w G3 H3 y p2 => hr G3 H3 v w Q y.gh (p.up y.gg) p2 (q.ext (x.trans y)))
theorem ed_cmp {op : CmpOp} {r : R2} (ho : OpR X (compareOp op) r) (hr : OpD r da db d) (ha : ED X a σ G da) (hb : ED X b σ G db) (hm : behindInMarks op b = false) : ED X (.Compare a [op] [b] pos) σ G d := fun H s Q q =>
  we (pe_cmpR ho pe pe hm) (ha H s _ fun v G2 H2 x p => hb.up x.gg H2 x.gh _ fun w G3 H3 y p2 => hr G3 H3 v w Q y.gh (p.up y.gg) p2 (q.ext (x.trans y)))
theorem et_cmp {op : CmpOp} {r : R2} {k : Bool} (ho : OpR X (compareOp op) r) (hr : OpD r da db (.bool k)) (ha : ED X a σ G da) (hb : ED X b σ G db) (hm : behindInMarks op b = false) : ET X (.Compare a [op] [b] pos) σ G k := fun H s Q q =>
  wt (pt_cmpR ho pe pe hm) (ha H s _ fun v G2 H2 x p => hb.up x.gg H2 x.gh _ fun w G3 H3 y p2 => hr G3 H3 v w _ y.gh (p.up y.gg) p2 fun z G4 H4 y2 p4 => by
    cases p4
    exact ⟨k, rfl, q G4 H4 ((x.trans y).trans y2)⟩)
/-- a value that is a truth value, as a test -/
theorem et_val {k : Bool} (h : ED X e σ G (.bool k)) (he : ∀ whole, isTrue e X.env whole = (do let v ← whole; standAt e.pos; holding [v] (truthy v)) := by intro _; rfl) : ET X e σ G k := fun H s Q q =>
  wt (pt_val pe he) (h H s _ fun v G2 H2 x p => by
    cases p
    exact ⟨k, rfl, q G2 H2 x⟩)
theorem et_not {k : Bool} (h : ET X e σ G k) : ET X (.UnaryOp .Not e pos) σ G (!k) := fun H s Q q => wt (pt_not pt) (h H s _ fun G2 H2 x => q G2 H2 x)
theorem EW.t {k : Bool} (h : EW X e σ G k) : ET X e σ G k := fun H s Q q => wt pw.pt (h H s Q q)
theorem EW.up {k : Bool} (h : EW X e σ G k) (s : Same G G1) : EW X e σ G1 k := fun H s1 Q q => h H (s.trans s1) Q fun _ _ x => q _ _ (x.widen s s1)
theorem ew_and1 {k : Bool} (h : ET X a σ G k) : EW X (.BoolOp .And [a] pos) σ G k := fun H s Q q => ww (pw_and1 pt) (h H s Q q)
theorem ew_or1 {k : Bool} (h : ET X a σ G k) : EW X (.BoolOp .Or [a] pos) σ G k := fun H s Q q => ww (pw_or1 pt) (h H s Q q)
theorem ew_and {k k' : Bool} (h : ET X a σ G k) (h' : k = true → EW X (.BoolOp .And (b :: es) pos) σ G k') : EW X (.BoolOp .And (a :: b :: es) pos) σ G (k && k') := fun H s Q q =>
  ww (pw_and pt pw) (h H s _ fun G2 H2 x => by
    cases k with
    | false => exact iteF (q G2 H2 x)
    | true => exact iteT ((h' rfl).up x.gg H2 x.gh _ fun G3 H3 y => q G3 H3 (x.trans y)))
theorem ew_or {k k' : Bool} (h : ET X a σ G k) (h' : k = false → EW X (.BoolOp .Or (b :: es) pos) σ G k') : EW X (.BoolOp .Or (a :: b :: es) pos) σ G (k || k') := fun H s Q q =>
  ww (pw_or pt pw) (h H s _ fun G2 H2 x => by
    cases k with
    | true => exact iteT (q G2 H2 x)
    | false => exact iteF ((h' rfl).up x.gg H2 x.gh _ fun G3 H3 y => q G3 H3 (x.trans y)))
/-! and, or as values (truth values) -/
theorem ed_one {op} (h : ED X a σ G d) : ED X (.BoolOp op [a] pos) σ G d := fun H s Q q => we (pe_one pe) (h H s Q q)
theorem ed_and {k : Bool} (h : ED X a σ G (.bool k)) (h' : k = true → ED X (.BoolOp .And (b :: es) pos) σ G d) (h0 : k = false → d = .bool false) : ED X (.BoolOp .And (a :: b :: es) pos) σ G d := fun H s Q q =>
  we (pe_and pe pe) (h H s _ fun v G2 H2 x p => by
    cases p
    refine ⟨k, rfl, ?_⟩
    cases k with
    | true => exact iteT ((h' rfl).up x.gg H2 x.gh _ (q.ext x))
    | false =>
      refine iteF ?_
      have := h0 rfl
      subst this
      exact (q.ext x).now x.gh (.bl false))
theorem ed_or {k : Bool} (h : ED X a σ G (.bool k)) (h' : k = false → ED X (.BoolOp .Or (b :: es) pos) σ G d) (h0 : k = true → d = .bool true) : ED X (.BoolOp .Or (a :: b :: es) pos) σ G d := fun H s Q q =>
  we (pe_or pe pe) (h H s _ fun v G2 H2 x p => by
    cases p
    refine ⟨k, rfl, ?_⟩
    cases k with
    | false => exact iteF ((h' rfl).up x.gg H2 x.gh _ (q.ext x))
    | true =>
      refine iteT ?_
      have := h0 rfl
      subst this
      exact (q.ext x).now x.gh (.bl true))
theorem ed_not {k : Bool} (h : ED X a σ G (.bool k)) : ED X (.UnaryOp .Not a pos) σ G (.bool (!k)) := fun H s Q q => we (pe_not pe) (h H s _ fun v G2 H2 x p => by
    cases p
    exact ⟨k, rfl, (q.ext x).now x.gh (.bl _)⟩)
theorem ed_if {k : Bool} (h : ET X c σ G k) (h1 : k = true → ED X a σ G d) (h2 : k = false → ED X b σ G d) : ED X (.IfExp c a b pos) σ G d := fun H s Q q =>
  we (pe_ifExp pt pe pe) (h H s _ fun G2 H2 x => by
    cases k with
    | true => exact iteT ((h1 rfl).up x.gg H2 x.gh _ (q.ext x))
    | false => exact iteF ((h2 rfl).up x.gg H2 x.gh _ (q.ext x)))
end
end Wk
set_option maxHeartbeats 2000000
namespace Wk
open PySem PySem.Spec PyProof.Rows L2
section
variable {X : Cx} {K : PySem.W.Frag} {e a b c : Expr} {es : List Expr} {σ : St} {G G1 H : Hp} {d da db dc : PyData} {ds : List PyData} {pos p : Pos}
/-! ### ints -/
theorem od_I0 {g : Int → Int → V} {i j : Int} {d : PyData} (h : ∀ G, Dq G (g i j) d) : OpD (rI0 g) (.int i) (.int j) d := fun G H x y Q s p1 p2 q => by
  cases p1
  cases p2
  exact ⟨i, j, rfl, rfl, q _ G H (Ext.refl s) (h G)⟩
theorem od_I {C : Int → Int → Prop} {g : Int → Int → V} {i j : Int} {d : PyData} (hc : C i j) (h : ∀ G, Dq G (g i j) d) : OpD (rI C g) (.int i) (.int j) d := fun G H x y Q s p1 p2 q => by
  cases p1
  cases p2
  exact ⟨i, j, rfl, rfl, hc, q _ G H (Ext.refl s) (h G)⟩
theorem ed_add {i j : Int} (ha : ED X a σ G (.int i)) (hb : ED X b σ G (.int j)) : ED X (.BinOp a .Add b pos) σ G (.int (i + j)) := ed_op op_add (od_I0 fun _ => .int _) ha hb
theorem ed_sub {i j : Int} (ha : ED X a σ G (.int i)) (hb : ED X b σ G (.int j)) : ED X (.BinOp a .Sub b pos) σ G (.int (i - j)) := ed_op op_sub (od_I0 fun _ => .int _) ha hb
theorem ed_mul {i j : Int} (h : CMul i j) (ha : ED X a σ G (.int i)) (hb : ED X b σ G (.int j)) : ED X (.BinOp a .Mult b pos) σ G (.int (i * j)) := ed_op op_mul (od_I h fun _ => .int _) ha hb
theorem ed_mod {i j : Int} (h : 0 < j) (ha : ED X a σ G (.int i)) (hb : ED X b σ G (.int j)) : ED X (.BinOp a .Mod b pos) σ G (.int (i % j)) := ed_op op_mod (od_I h fun _ => .int _) ha hb
theorem ed_div {i j : Int} (h : 0 < j ∧ j < 1073741824) (ha : ED X a σ G (.int i)) (hb : ED X b σ G (.int j)) : ED X (.BinOp a .FloorDiv b pos) σ G (.int (i / j)) := ed_op op_fdiv (od_I h fun _ => .int _) ha hb
theorem ed_pow {i j : Int} (h : CPow i j) (ha : ED X a σ G (.int i)) (hb : ED X b σ G (.int j)) : ED X (.BinOp a .Pow b pos) σ G (.int (i ^ j.toNat)) := ed_op op_pow (od_I h fun _ => .int _) ha hb
theorem et_lt {i j : Int} (ha : ED X a σ G (.int i)) (hb : ED X b σ G (.int j)) : ET X (.Compare a [.Lt] [b] pos) σ G (decide (i < j)) := et_cmp op_lt (od_I0 fun _ => .bl _) ha hb (nomark _)
theorem et_gt {i j : Int} (ha : ED X a σ G (.int i)) (hb : ED X b σ G (.int j)) : ET X (.Compare a [.Gt] [b] pos) σ G (decide (j < i)) := et_cmp op_gt (od_I0 fun _ => .bl _) ha hb (nomark _)
theorem ed_ge {i j : Int} (ha : ED X a σ G (.int i)) (hb : ED X b σ G (.int j)) : ED X (.Compare a [.GtE] [b] pos) σ G (.bool (decide (j ≤ i))) := ed_cmp op_ge (od_I0 fun _ => .bl _) ha hb (nomark _)
theorem ed_lts {i j : Str} (ha : ED X a σ G (.str i)) (hb : ED X b σ G (.str j)) : ED X (.Compare a [.Lt] [b] pos) σ G (.bool (decide (i.cps.toList < j.cps.toList))) :=
  ed_cmp op_lt_str (fun G H x y Q s p1 p2 q => by
    cases p1
    cases p2
    exact ⟨i, j, rfl, rfl, q _ G H (Ext.refl s) (.bl _)⟩) ha hb (nomark _)
/-! ### == of data -/
theorem od_eq {d e : PyData} (h1 : SeqAt.shaped d = true) (h2 : SeqAt.shaped e = true) : OpD (rEqD K) d e (.bool (PyData.eqv d e)) := fun G H x y Q s p1 p2 q =>
  ⟨d, e, Dq.dp _ _ (p1.up s), Dq.dp _ _ (p2.up s), h1, h2, q _ G H (Ext.refl s) (.bl _)⟩
theorem od_ne {d e : PyData} (h1 : SeqAt.shaped d = true) (h2 : SeqAt.shaped e = true) : OpD (rNeD K) d e (.bool (!PyData.eqv d e)) := fun G H x y Q s p1 p2 q =>
  ⟨d, e, Dq.dp _ _ (p1.up s), Dq.dp _ _ (p2.up s), h1, h2, q _ G H (Ext.refl s) (.bl _)⟩
theorem ed_eq (hu : X.A.units + 64 < cLine) (h1 : SeqAt.shaped da = true) (h2 : SeqAt.shaped db = true) (ha : ED X a σ G da) (hb : ED X b σ G db) : ED X (.Compare a [.Eq] [b] pos) σ G (.bool (PyData.eqv da db)) := ed_cmp (op_eqD hu) (od_eq h1 h2) ha hb (nomark _)
theorem et_eq (hu : X.A.units + 64 < cLine) (h1 : SeqAt.shaped da = true) (h2 : SeqAt.shaped db = true) (ha : ED X a σ G da) (hb : ED X b σ G db) : ET X (.Compare a [.Eq] [b] pos) σ G (PyData.eqv da db) := et_cmp (op_eqD hu) (od_eq h1 h2) ha hb (nomark _)
theorem ed_ne (hu : X.A.units + 64 < cLine) (h1 : SeqAt.shaped da = true) (h2 : SeqAt.shaped db = true) (ha : ED X a σ G da) (hb : ED X b σ G db) : ED X (.Compare a [.NotEq] [b] pos) σ G (.bool (!PyData.eqv da db)) := ed_cmp (op_neD hu) (od_ne h1 h2) ha hb (nomark _)
theorem et_ne (hu : X.A.units + 64 < cLine) (h1 : SeqAt.shaped da = true) (h2 : SeqAt.shaped db = true) (ha : ED X a σ G da) (hb : ED X b σ G db) : ET X (.Compare a [.NotEq] [b] pos) σ G (!PyData.eqv da db) := et_cmp (op_neD hu) (od_ne h1 h2) ha hb (nomark _)
/-- scalars: == on one kind -/
theorem od_eqS {v w : V} {d e : PyData} (h1 : ∀ G x, Dq G x d → x = v) (h2 : ∀ G x, Dq G x e → x = w) (hs : scal v w = true) : OpD rEq d e (.bool (decide (v = w))) := fun G H x y Q s p1 p2 q => by
  cases h1 _ _ p1
  cases h2 _ _ p2
  exact ⟨hs, q _ G H (Ext.refl s) (.bl _)⟩
theorem od_neS {v w : V} {d e : PyData} (h1 : ∀ G x, Dq G x d → x = v) (h2 : ∀ G x, Dq G x e → x = w) (hs : scal v w = true) : OpD rNe d e (.bool (!decide (v = w))) := fun G H x y Q s p1 p2 q => by
  cases h1 _ _ p1
  cases h2 _ _ p2
  exact ⟨hs, q _ G H (Ext.refl s) (.bl _)⟩
theorem isI {i : Int} (G : Hp) (x : V) (h : Dq G x (.int i)) : x = .int i := by cases h; rfl
theorem isB {i : Bool} (G : Hp) (x : V) (h : Dq G x (.bool i)) : x = .bl i := by cases h; rfl
theorem isS {i : Str} (G : Hp) (x : V) (h : Dq G x (.str i)) : x = .str i := by cases h; rfl
theorem et_eqI {i j : Int} (ha : ED X a σ G (.int i)) (hb : ED X b σ G (.int j)) : ET X (.Compare a [.Eq] [b] pos) σ G (decide (i = j)) :=
  (et_cmp op_eq (od_eqS isI isI rfl) ha hb (nomark _)).to (by simp)
theorem ed_eqI {i j : Int} (ha : ED X a σ G (.int i)) (hb : ED X b σ G (.int j)) : ED X (.Compare a [.Eq] [b] pos) σ G (.bool (decide (i = j))) :=
  (ed_cmp op_eq (od_eqS isI isI rfl) ha hb (nomark _)).to (by simp)
theorem ed_eqB {i j : Bool} (ha : ED X a σ G (.bool i)) (hb : ED X b σ G (.bool j)) : ED X (.Compare a [.Eq] [b] pos) σ G (.bool (decide (i = j))) :=
  (ed_cmp op_eq (od_eqS isB isB rfl) ha hb (nomark _)).to (by simp)
theorem ed_neB {i j : Bool} (ha : ED X a σ G (.bool i)) (hb : ED X b σ G (.bool j)) : ED X (.Compare a [.NotEq] [b] pos) σ G (.bool (!decide (i = j))) :=
  (ed_cmp op_ne (od_neS isB isB rfl) ha hb (nomark _)).to (by simp)
theorem et_neB {i j : Bool} (ha : ED X a σ G (.bool i)) (hb : ED X b σ G (.bool j)) : ET X (.Compare a [.NotEq] [b] pos) σ G (!decide (i = j)) :=
  (et_cmp op_ne (od_neS isB isB rfl) ha hb (nomark _)).to (by simp)
theorem et_neS {i j : Str} (ha : ED X a σ G (.str i)) (hb : ED X b σ G (.str j)) : ET X (.Compare a [.NotEq] [b] pos) σ G (!decide (i = j)) :=
  (et_cmp op_ne (od_neS isS isS rfl) ha hb (nomark _)).to (by simp)
/-! ### is None -/
def isNon : PyData → Bool
  | .none => true
  | _ => false
theorem _root_.L2.Dq.isN {G : Hp} {v : V} {d : PyData} (h : Dq G v d) : decide (v = .non) = isNon d := by
  cases h <;> simp [isNon]
theorem od_isN : OpD (fun x y H Q => y = .non ∧ Q (.bl (decide (x = .non))) H) d .none (.bool (isNon d)) := fun G H x y Q s p1 p2 q => by
  cases p2
  refine ⟨rfl, ?_⟩
  rw [p1.isN]
  exact q _ G H (Ext.refl s) (.bl _)
theorem od_notN : OpD (fun x y H Q => y = .non ∧ Q (.bl (!decide (x = .non))) H) d .none (.bool (!isNon d)) := fun G H x y Q s p1 p2 q => by
  cases p2
  refine ⟨rfl, ?_⟩
  rw [p1.isN]
  exact q _ G H (Ext.refl s) (.bl _)
theorem ed_isN (ha : ED X a σ G d) (hb : ED X b σ G .none) : ED X (.Compare a [.Is] [b] pos) σ G (.bool (isNon d)) := ed_cmp op_isN od_isN ha hb (nomark _)
theorem et_isN (ha : ED X a σ G d) (hb : ED X b σ G .none) : ET X (.Compare a [.Is] [b] pos) σ G (isNon d) := et_cmp op_isN od_isN ha hb (nomark _)
theorem ed_notN (ha : ED X a σ G d) (hb : ED X b σ G .none) : ED X (.Compare a [.IsNot] [b] pos) σ G (.bool (!isNon d)) := ed_cmp op_notN od_notN ha hb (nomark _)
/-! ### in, of texts in a list or tuple -/
theorem inV_strs (z : Str) (xs : List Str) : inV (.str z) (xs.map V.str) = decide (z ∈ xs) := by
  unfold inV
  induction xs with
  | nil => simp
  | cons x xs ih =>
    rw [List.map_cons, List.any_cons, ih]
    show ((x == z) || _) = _
    by_cases e : x = z
    · subst e; simp
    · have e' : ¬ z = x := fun q => e q.symm
      simp [e, e']
theorem flats (xs : List Str) : (xs.map V.str).all flatV = true := by simp [flatV]
theorem od_in {z : Str} {xs : List Str} (hd : seqOf d = some (xs.map PyData.str)) (neg : Bool) : OpD (rIn K neg) (.str z) d (.bool (if neg then !decide (z ∈ xs) else decide (z ∈ xs))) := fun G H x y Q s p1 p2 q => by
  cases p1
  obtain ⟨a, vs, rfl, h1, h2⟩ := p2.seq hd
  cases DqAll.of_strs h1
  refine ⟨a, _, rfl, ?_, rfl, flats xs, ?_⟩
  · rcases h2 with ⟨_, h2⟩ | ⟨_, h2⟩
    · exact .inl (SqL.of (s _ _ h2))
    · exact .inr (.inl (h2.up s))
  · rw [inV_strs]
    exact q _ G H (Ext.refl s) (.bl _)
theorem ed_in {z : Str} {xs : List Str} (hd : seqOf d = some (xs.map PyData.str)) (ha : ED X a σ G (.str z)) (hb : ED X b σ G d) (hm : behindInMarks .In b = false := by rfl) : ED X (.Compare a [.In] [b] pos) σ G (.bool (decide (z ∈ xs))) := ed_cmp op_in_seq (od_in hd false) ha hb hm
theorem et_in {z : Str} {xs : List Str} (hd : seqOf d = some (xs.map PyData.str)) (ha : ED X a σ G (.str z)) (hb : ED X b σ G d) (hm : behindInMarks .In b = false := by rfl) : ET X (.Compare a [.In] [b] pos) σ G (decide (z ∈ xs)) := et_cmp op_in_seq (od_in hd false) ha hb hm
theorem et_ni {z : Str} {xs : List Str} (hd : seqOf d = some (xs.map PyData.str)) (ha : ED X a σ G (.str z)) (hb : ED X b σ G d) (hm : behindInMarks .NotIn b = false := by rfl) : ET X (.Compare a [.NotIn] [b] pos) σ G (!decide (z ∈ xs)) := et_cmp op_notIn_seq (od_in hd true) ha hb hm
/-- one sign in a text -/
theorem ed_sign {c : Nat} {z : Str} (ha : ED X a σ G (.str ⟨#[c]⟩)) (hb : ED X b σ G (.str z)) (hm : behindInMarks .In b = false := by rfl) : ED X (.Compare a [.In] [b] pos) σ G (.bool (decide (c ∈ z.cps.toList))) :=
  ed_cmp op_in_sign (fun G H x y Q s p1 p2 q => by
    cases p1
    cases p2
    exact ⟨c, z, rfl, rfl, q _ G H (Ext.refl s) (.bl _)⟩) ha hb hm
/-! ### built-in calls -/
def CallD (r : List V → Hp → VK → Prop) (ds : List PyData) (d : PyData) : Prop := ∀ G H vs Q, Same G H → DqAll G vs ds → RD G H d Q → r vs H Q
theorem ed_cb {x : Str} {id : String} {r : List V → Hp → VK → Prop} (hc : CallR X (.builtin id) r) (hv : bootBuiltins x = some (.builtin id)) (hr : CallD r ds d) (hm : X.mg x = none) (ha : EDs X (e :: es) σ G ds) (hg : Gl X x := by rfl) (hn : x ≠ "__name__" := by decide)
    (hdb : (x == ("__debug__" : Str)) = false := by decide) (he : starEach (e :: es) X.env = (false, eval e X.env) :: starEach es X.env := by rfl) (hpl : (backTo pos (starEach es X.env)).any (·.1) = false := by rfl) : ED X (.Call (.Name x p) (e :: es) [] pos) σ G d := fun H s Q q =>
  we (pe_callB hc hg hm hv pa hn hdb he hpl) (ha H s _ fun vs G2 H2 y ps => hr G2 H2 vs Q y.gh ps (q.ext y))
theorem ed_ct {x : Str} {T : String} {r : List V → Hp → VK → Prop} (hc : CallR X (.type T) r) (hv : bootBuiltins x = some (.type T)) (hr : CallD r ds d) (hm : X.mg x = none) (ha : EDs X (e :: es) σ G ds) (hg : Gl X x := by rfl) (hn : x ≠ "__name__" := by decide)
    (hdb : (x == ("__debug__" : Str)) = false := by decide) (he : starEach (e :: es) X.env = (false, eval e X.env) :: starEach es X.env := by rfl) (hpl : (backTo pos (starEach es X.env)).any (·.1) = false := by rfl) : ED X (.Call (.Name x p) (e :: es) [] pos) σ G d := fun H s Q q =>
  we (pe_callTy hc hg hm hv pa hn hdb he hpl) (ha H s _ fun vs G2 H2 y ps => hr G2 H2 vs Q y.gh ps (q.ext y))
theorem _root_.L2.DqAll.one {G : Hp} {vs : List V} {d : PyData} (h : DqAll G vs [d]) : ∃ v, vs = [v] ∧ Dq G v d := by
  cases h with
  | cons h1 h2 =>
    cases h2
    exact ⟨_, rfl, h1⟩
theorem _root_.L2.DqAll.two {G : Hp} {vs : List V} {d d' : PyData} (h : DqAll G vs [d, d']) : ∃ v v', vs = [v, v'] ∧ Dq G v d ∧ Dq G v' d' := by
  cases h with
  | cons h1 h2 =>
    obtain ⟨v', e, h3⟩ := h2.one
    subst e
    exact ⟨_, _, rfl, h1, h3⟩
theorem sideL {K : PySem.W.Frag} {G H : Hp} {a : Addr} {xs : List V} {d : PyData} {ds : List PyData} (s : Same G H) (h : (d = .list ds ∧ G a = some (.lst xs)) ∨ (d = .tuple ds ∧ Rd G a (.tup xs))) : SqL K H a xs ∨ SqT K H a xs := by
  rcases h with ⟨_, h⟩ | ⟨_, h⟩
  · exact .inl (.of (s _ _ h))
  · exact .inr (.inl (h.up s))
theorem ed_len (hd : seqOf d = some ds) (hm : X.mg "len" = none) (ha : ED X a σ G d) (hg : Gl X "len" := by rfl) (he : starEach [a] X.env = (false, eval a X.env) :: starEach [] X.env := by rfl) : ED X (.Call (.Name "len" p) [a] [] pos) σ G (.int ds.length) :=
  ed_cb call_len_seq PySem.boot_len (fun G H vs Q s ps q => by
    obtain ⟨v, rfl, h⟩ := ps.one
    obtain ⟨r, xs, rfl, h1, h2⟩ := h.seq hd
    refine ⟨r, xs, rfl, sideL s h2, ?_⟩
    rw [h1.length]
    exact q _ G H (Ext.refl s) (.int _)) hm (eds_cons ha eds_nil he) hg (by decide) (by decide) he
theorem ed_lenS {z : Str} (hz : z.length ≤ 100000) (hm : X.mg "len" = none) (ha : ED X a σ G (.str z)) (hg : Gl X "len" := by rfl) (he : starEach [a] X.env = (false, eval a X.env) :: starEach [] X.env := by rfl) : ED X (.Call (.Name "len" p) [a] [] pos) σ G (.int z.length) :=
  ed_cb call_len_str PySem.boot_len (fun G H vs Q s ps q => by
    obtain ⟨v, rfl, h⟩ := ps.one
    cases h
    exact ⟨z, rfl, line _ hz, q _ G H (Ext.refl s) (.int _)⟩) hm (eds_cons ha eds_nil he) hg (by decide) (by decide) he
theorem ed_list (hd : seqOf d = some ds) (hm : X.mg "list" = none) (ha : ED X a σ G d) (hg : Gl X "list" := by rfl) (he : starEach [a] X.env = (false, eval a X.env) :: starEach [] X.env := by rfl) : ED X (.Call (.Name "list" p) [a] [] pos) σ G (.list ds) :=
  ed_ct call_list_of (by decide +kernel) (fun G H vs Q s ps q => by
    obtain ⟨v, rfl, h⟩ := ps.one
    obtain ⟨r, xs, rfl, h1, h2⟩ := h.seq hd
    exact ⟨r, xs, rfl, sideL s h2, fun l hl => q _ _ _ (Ext.new s hl) (.lst upd_same (h1.up (Same.laid (s.free hl))))⟩) hm (eds_cons ha eds_nil he) hg (by decide) (by decide) he
theorem ed_tuple (hd : seqOf d = some ds) (hm : X.mg "tuple" = none) (ha : ED X a σ G d) (hg : Gl X "tuple" := by rfl) (he : starEach [a] X.env = (false, eval a X.env) :: starEach [] X.env := by rfl) : ED X (.Call (.Name "tuple" p) [a] [] pos) σ G (.tuple ds) :=
  ed_ct call_tuple_of (by decide +kernel) (fun G H vs Q s ps q => by
    obtain ⟨v, rfl, h⟩ := ps.one
    obtain ⟨r, xs, rfl, h1, h2⟩ := h.seq hd
    refine ⟨r, xs, rfl, ?_⟩
    rcases h2 with ⟨_, h2⟩ | ⟨e, h2⟩
    · exact .inl ⟨SqL.of (s _ _ h2), fun l hl => q _ _ _ (Ext.new s hl) (.tupR (.inl upd_same) (h1.up (Same.laid (s.free hl))))⟩
    · exact .inr ⟨.inl (h2.up s), q _ G H (Ext.refl s) (.tupR h2 h1)⟩) hm (eds_cons ha eds_nil he) hg (by decide) (by decide) he
theorem ed_intI {i : Int} (hm : X.mg "int" = none) (ha : ED X a σ G (.int i)) (hg : Gl X "int" := by rfl) (he : starEach [a] X.env = (false, eval a X.env) :: starEach [] X.env := by rfl) : ED X (.Call (.Name "int" p) [a] [] pos) σ G (.int i) :=
  ed_ct call_int1 (by decide +kernel) (fun G H vs Q s ps q => by
    obtain ⟨v, rfl, h⟩ := ps.one
    cases h
    exact .inl ⟨i, rfl, q _ G H (Ext.refl s) (.int _)⟩) hm (eds_cons ha eds_nil he) hg (by decide) (by decide) he
theorem ed_intB {i : Bool} (hm : X.mg "int" = none) (ha : ED X a σ G (.bool i)) (hg : Gl X "int" := by rfl) (he : starEach [a] X.env = (false, eval a X.env) :: starEach [] X.env := by rfl) : ED X (.Call (.Name "int" p) [a] [] pos) σ G (.int (if i then 1 else 0)) :=
  ed_ct call_int1 (by decide +kernel) (fun G H vs Q s ps q => by
    obtain ⟨v, rfl, h⟩ := ps.one
    cases h
    exact .inr ⟨i, rfl, q _ G H (Ext.refl s) (.int _)⟩) hm (eds_cons ha eds_nil he) hg (by decide) (by decide) he
theorem ed_abs {i : Int} (hm : X.mg "abs" = none) (ha : ED X a σ G (.int i)) (hg : Gl X "abs" := by rfl) (he : starEach [a] X.env = (false, eval a X.env) :: starEach [] X.env := by rfl) : ED X (.Call (.Name "abs" p) [a] [] pos) σ G (.int (if i < 0 then -i else i)) :=
  ed_cb call_abs (by decide +kernel) (fun G H vs Q s ps q => by
    obtain ⟨v, rfl, h⟩ := ps.one
    cases h
    exact ⟨i, rfl, q _ G H (Ext.refl s) (.int _)⟩) hm (eds_cons ha eds_nil he) hg (by decide) (by decide) he
theorem ed_max2 {i j : Int} (hc : X.calm = true) (hm : X.mg "max" = none) (ha : ED X a σ G (.int i)) (hb : ED X b σ G (.int j)) (hg : Gl X "max" := by rfl) (he : starEach [a, b] X.env = (false, eval a X.env) :: starEach [b] X.env := by rfl) (he2 : starEach [b] X.env = (false, eval b X.env) :: starEach [] X.env := by rfl)
    (hpl : (backTo pos (starEach [b] X.env)).any (·.1) = false := by rfl) : ED X (.Call (.Name "max" p) [a, b] [] pos) σ G (.int (if j > i then j else i)) :=
  ed_cb (call_max2 hc) (by decide +kernel) (fun G H vs Q s ps q => by
    obtain ⟨v, v', rfl, h, h'⟩ := ps.two
    cases h
    cases h'
    exact ⟨i, j, rfl, q _ G H (Ext.refl s) (.int _)⟩) hm (eds_cons ha (eds_cons hb eds_nil he2) he) hg (by decide) (by decide) he hpl
theorem ed_sum {ns : List Int} (hc : X.calm = true) (hm : X.mg "sum" = none) (ha : ED X a σ G (.list (ns.map .int))) (hg : Gl X "sum" := by rfl) (he : starEach [a] X.env = (false, eval a X.env) :: starEach [] X.env := by rfl) : ED X (.Call (.Name "sum" p) [a] [] pos) σ G (.int ns.sum) :=
  ed_cb (cr_sum hc) (by decide +kernel) (fun G H vs Q s ps q => by
    obtain ⟨v, rfl, h⟩ := ps.one
    cases h with
    | lst h1 h2 =>
      cases DqAll.of_ints h2
      exact ⟨_, ns, rfl, SqL.of (s _ _ h1), q _ G H (Ext.refl s) (.int _)⟩) hm (eds_cons ha eds_nil he) hg (by decide) (by decide) he
theorem ed_all {bs : List Bool} (hc : X.calm = true) (hm : X.mg "all" = none) (ha : ED X a σ G (.list (bs.map .bool))) (hg : Gl X "all" := by rfl) (he : starEach [a] X.env = (false, eval a X.env) :: starEach [] X.env := by rfl) : ED X (.Call (.Name "all" p) [a] [] pos) σ G (.bool (bs.all id)) :=
  ed_cb (cr_all hc) (by decide +kernel) (fun G H vs Q s ps q => by
    obtain ⟨v, rfl, h⟩ := ps.one
    cases h with
    | lst h1 h2 =>
      cases DqAll.of_bls h2
      exact ⟨_, bs, rfl, SqL.of (s _ _ h1), q _ G H (Ext.refl s) (.bl _)⟩) hm (eds_cons ha eds_nil he) hg (by decide) (by decide) he
theorem ed_max {ns : List Int} {m : Int} (hm1 : m ∈ ns) (hm2 : ∀ y ∈ ns, y ≤ m) (hc : X.calm = true) (hm : X.mg "max" = none) (ha : ED X a σ G (.list (ns.map .int))) (hg : Gl X "max" := by rfl) (he : starEach [a] X.env = (false, eval a X.env) :: starEach [] X.env := by rfl) : ED X (.Call (.Name "max" p) [a] [] pos) σ G (.int m) :=
  ed_cb (cr_max hc) (by decide +kernel) (fun G H vs Q s ps q => by
    obtain ⟨v, rfl, h⟩ := ps.one
    cases h with
    | lst h1 h2 =>
      cases DqAll.of_ints h2
      refine ⟨_, ns, rfl, SqL.of (s _ _ h1), List.length_pos_of_mem hm1, fun k hk hk2 => ?_⟩
      have : k = m := Int.le_antisymm (hm2 k hk) (hk2 m hm1)
      subst this
      exact q _ G H (Ext.refl s) (.int _)) hm (eds_cons ha eds_nil he) hg (by decide) (by decide) he
/-! ### subscripts, slices -/
theorem ed_ix {i : Int} {x : PyData} (hd : seqOf d = some ds) (hi : atI ds i = some x) (ha : ED X a σ G d) (hb : ED X b σ G (.int i)) (hs : PlainIx b := by exact fun _ _ => rfl) : ED X (.Subscript a b pos) σ G x := fun H s Q q =>
  we (pe_ix ix_seq pe pe hs) (ha H s _ fun v G2 H2 y p => hb.up y.gg H2 y.gh _ fun w G3 H3 y2 p2 => by
    cases p2
    obtain ⟨r, xs, rfl, h1, h2⟩ := (p.up y2.gg).seq hd
    obtain ⟨u, hu, hp⟩ : ∃ u, atI xs i = some u ∧ Dq G3 u x := by
      unfold atI at hi ⊢
      rw [h1.length]
      cases e : ixN ds.length i with
      | none => rw [e] at hi; cases hi
      | some j =>
        rw [e] at hi
        exact h1.get hi
    have fin : Q u H3 := (q.ext (y.trans y2)).now y2.gh hp
    rcases h2 with ⟨_, h2⟩ | ⟨_, h2⟩
    · exact .inl ⟨r, xs, i, u, rfl, rfl, SqL.of (y2.gh _ _ h2), hu, fin⟩
    · exact .inr (.inl ⟨r, xs, i, u, rfl, rfl, (.inl (h2.up y2.gh)), hu, fin⟩))
theorem ed_ixS {i : Int} {z : Str} {c : Nat} (hz : z.length ≤ 100000) (hi : atI z.cps.toList i = some c) (ha : ED X a σ G (.str z)) (hb : ED X b σ G (.int i)) (hs : PlainIx b := by exact fun _ _ => rfl) : ED X (.Subscript a b pos) σ G (.str ⟨#[c]⟩) := fun H s Q q =>
  we (pe_ix ix_str pe pe hs) (ha H s _ fun v G2 H2 y p => hb.up y.gg H2 y.gh _ fun w G3 H3 y2 p2 => by
    cases p2
    cases p
    exact ⟨z, i, c, rfl, rfl, line _ hz, hi, (q.ext (y.trans y2)).now y2.gh (.str _)⟩)
def EO (X : Cx) (e : Option Expr) (σ : St) (G : Hp) : Option Int → Prop
  | none => e = none
  | some i => ∃ b, e = some b ∧ ED X b σ G (.int i)
theorem eo_none : EO X none σ G none := rfl
theorem eo_some {i : Int} (h : ED X b σ G (.int i)) : EO X (some b) σ G (some i) := ⟨b, rfl, h⟩
def tO (X : Cx) : Option Expr → TO
  | none => tNoPart
  | some b => tPart (WE X b)
theorem po_t : ∀ e : Option Expr, PO X e (tO X e)
  | none => po_none
  | some _ => po_some pe
theorem EO.up {o : Option Expr} {i : Option Int} (h : EO X o σ G i) (s : Same G G1) : EO X o σ G1 i := by
  cases i with
  | none => exact h
  | some i =>
    obtain ⟨b, e, h⟩ := h
    exact ⟨b, e, h.up s⟩
theorem EO.t {o : Option Expr} {i : Option Int} {Q : Option Int → Hp → Prop} (h : EO X o σ G i) (s : Same G H) (q : ∀ G2 H2, Ext G H G2 H2 → Q i H2) : tO X o σ H Q := by
  cases i with
  | none =>
    cases (show o = none from h)
    exact q G H (Ext.refl s)
  | some i =>
    obtain ⟨b, e, h⟩ := h
    subst e
    exact h H s _ fun v G2 H2 y p => by
      cases p
      exact ⟨i, rfl, q G2 H2 y⟩
def cutD (xs : List PyData) (lo hi : Option Int) : List PyData := (xs.drop (HT.sIx xs.length 0 lo)).take (HT.sIx xs.length xs.length hi - HT.sIx xs.length 0 lo)
theorem _root_.L2.DqAll.cut {G : Hp} {xs : List V} {ds : List PyData} (h : DqAll G xs ds) (lo hi : Option Int) : DqAll G (cutV xs lo hi) (cutD ds lo hi) := by
  unfold cutV cutD
  rw [h.length]
  exact (h.drop _).take _
theorem ed_slL {lo hi : Option Expr} {l u : Option Int} {p2 : Pos} (ha : ED X a σ G (.list ds)) (hl : EO X lo σ G l) (hh : EO X hi σ G u) : ED X (.Subscript a (.Slice lo hi none p2) pos) σ G (.list (cutD ds l u)) := fun H s Q q =>
  we (pe_slice sl_list pe (po_t lo) (po_t hi)) (ha H s _ fun v G2 H2 y p => (hl.up y.gg).t y.gh fun G3 H3 y2 => (hh.up (y.gg.trans y2.gg)).t y2.gh fun G4 H4 y3 => by
    cases p.up (y2.gg.trans y3.gg) with
    | lst h1 h2 => exact ⟨_, _, rfl, SqL.of (y3.gh _ _ h1), fun l hl => q _ _ _ ((y.trans (y2.trans y3)).trans (Ext.new y3.gh hl)) (.lst upd_same ((h2.cut _ _).up (Same.laid (y3.gh.free hl))))⟩)
theorem sIx_le' (n : Nat) (o : Option Int) : HT.sIx n n o ≤ n := HT.sIx_le n n (Nat.le_refl _) o
theorem ed_slT {lo hi : Option Expr} {l u : Option Int} {p2 : Pos} (ha : ED X a σ G (.tuple ds)) (hl : EO X lo σ G l) (hh : EO X hi σ G u) : ED X (.Subscript a (.Slice lo hi none p2) pos) σ G (.tuple (cutD ds l u)) := fun H s Q q =>
  we (pe_slice sl_tupA pe (po_t lo) (po_t hi)) (ha H s _ fun v G2 H2 y p => (hl.up y.gg).t y.gh fun G3 H3 y2 => (hh.up (y.gg.trans y2.gg)).t y2.gh fun G4 H4 y3 => by
    cases p.up (y2.gg.trans y3.gg) with
    | @tupR r xs _ h1 h2 =>
      refine ⟨_, _, rfl, (.inl (h1.up y3.gh)), fun hw => ?_, fun _ l hl => q _ _ _ ((y.trans (y2.trans y3)).trans (Ext.new y3.gh hl)) (.tupR (.inl upd_same) ((h2.cut _ _).up (Same.laid (y3.gh.free hl))))⟩
      refine q _ _ _ (y.trans (y2.trans y3)) ?_
      have e : cutD ds l u = ds := by
        unfold cutD
        rw [h2.length] at hw
        rw [hw.1, hw.2]
        simp
      rw [e]
      exact .tupR h1 h2)
theorem ed_slS {lo hi : Option Expr} {l u : Option Int} {z : Str} {p2 : Pos} (hz : z.length ≤ 100000) (ha : ED X a σ G (.str z)) (hl : EO X lo σ G l) (hh : EO X hi σ G u) : ED X (.Subscript a (.Slice lo hi none p2) pos) σ G (.str (cutS z l u)) := fun H s Q q =>
  we (pe_slice sl_str pe (po_t lo) (po_t hi)) (ha H s _ fun v G2 H2 y p => (hl.up y.gg).t y.gh fun G3 H3 y2 => (hh.up (y.gg.trans y2.gg)).t y2.gh fun G4 H4 y3 => by
    cases p
    exact ⟨z, rfl, line _ hz, q _ _ _ (y.trans (y2.trans y3)) (.str _)⟩)
/-! ### + of texts, tuples, lists -/
theorem ed_addS {i j : Str} (hz : i.length + j.length ≤ 100000) (ha : ED X a σ G (.str i)) (hb : ED X b σ G (.str j)) : ED X (.BinOp a .Add b pos) σ G (.str (i ++ j)) :=
  ed_op op_add_str (fun G H x y Q s p1 p2 q => by
    cases p1
    cases p2
    exact ⟨i, j, rfl, rfl, line _ hz, q _ G H (Ext.refl s) (.str _)⟩) ha hb
theorem ed_catT {es' : List PyData} (hz : ds.length + es'.length ≤ 100000) (ha : ED X a σ G (.tuple ds)) (hb : ED X b σ G (.tuple es')) : ED X (.BinOp a .Add b pos) σ G (.tuple (ds ++ es')) :=
  ed_op op_catA (fun G H x y Q s p1 p2 q => by
    cases p1 with
    | @tupR r xs _ h1 h2 =>
      cases p2 with
      | @tupR r' ys _ h3 h4 =>
        refine ⟨r, r', xs, ys, rfl, rfl, (.inl (h1.up s)), (.inl (h3.up s)), by rw [h2.length, h4.length]; exact line _ hz, fun e => ?_, fun _ e => ?_, fun _ _ l hl => q _ _ _ (Ext.new s hl) (.tupR (.inl upd_same) (DqAll.append (h4.up (Same.laid (s.free hl))) (h2.up (Same.laid (s.free hl)))))⟩
        · subst e
          cases h2
          exact q _ G H (Ext.refl s) (.tupR h3 h4)
        · subst e
          cases h4
          rw [List.append_nil] at q
          exact q _ G H (Ext.refl s) (.tupR h1 h2)) ha hb
theorem ed_catL {es' : List PyData} (hz : ds.length + es'.length ≤ 100000) (ha : ED X a σ G (.list ds)) (hb : ED X b σ G (.list es')) : ED X (.BinOp a .Add b pos) σ G (.list (ds ++ es')) :=
  ed_op op_cat (fun G H x y Q s p1 p2 q => by
    cases p1 with
    | @lst r xs _ h1 h2 =>
      cases p2 with
      | @lst r' ys _ h3 h4 =>
        exact ⟨r, r', xs, ys, rfl, rfl, s _ _ h1, s _ _ h3, by rw [h2.length, h4.length]; exact line _ hz, fun l hl => q _ _ _ (Ext.new s hl) (.lst upd_same (DqAll.append (h4.up (Same.laid (s.free hl))) (h2.up (Same.laid (s.free hl)))))⟩) ha hb
end
end Wk
set_option maxHeartbeats 2000000
namespace Wk
open PySem PySem.Spec PyProof.Rows L2
/-! ### isinstance of data -/
def tyOf : PyData → String
  | .none => "NoneType"
  | .bool _ => "bool"
  | .int _ => "int"
  | .str _ => "str"
  | .list _ => "list"
  | .tuple _ => "tuple"
  | .dict _ => "dict"
theorem _root_.L2.Dq.ty {K : PySem.W.Frag} {G : Hp} {v : V} {d : PyData} (h : Dq G v d) : TyX K G v (.type (tyOf d)) := by
  cases h with
  | non => exact .base .non
  | bl b => exact .base (.bl b)
  | int i => exact .base (.int i)
  | str x => exact .base (.str x)
  | lst h _ => exact .base (.lst h)
  | tupR h _ =>
    rcases h with h | ⟨o, h⟩
    · exact .base (.tup h)
    · exact .fTuple h
section
variable {X : Cx} {e a b c : Expr} {es : List Expr} {σ : St} {G G1 H : Hp} {d da db dc : PyData} {ds : List PyData} {pos p p2 p3 p4 : Pos}
theorem pe_ty {x : Str} {T : String} (hm : X.mg x = none) (hv : bootBuiltins x = some (.type T)) (hg : Gl X x) (hn : x ≠ "__name__") (hd : (x == ("__debug__" : Str)) = false) : PE X (.Name x p) (tC (.ty T)) := pe_bltn hg hm hv rfl hn hd
theorem ed_isi {x : Str} {T : String} {k : Bool} (hm : X.mg "isinstance" = none) (ha : ED X a σ G d) (hm2 : X.mg x = none) (hv : bootBuiltins x = some (.type T)) (hk : kitB (tyOf d) T = some k)
    (hg : Gl X "isinstance" := by rfl) (hg2 : Gl X x := by rfl) (hn : x ≠ "__name__" := by decide) (hd : (x == ("__debug__" : Str)) = false := by decide) (hs : starEach [a, .Name x p2] X.env = (false, eval a X.env) :: starEach [.Name x p2] X.env := by rfl)
    (hs2 : starEach [.Name x p2] X.env = (false, eval (.Name x p2) X.env) :: starEach [] X.env := by rfl) (hpl : (backTo pos (starEach [.Name x p2] X.env)).any (·.1) = false := by rfl) : ED X (.Call (.Name "isinstance" p) [a, .Name x p2] [] pos) σ G (.bool k) := fun H s Q q =>
  we (pe_callB call_isi hg hm boot_isinstance (pa_cons pe (pa_cons (pe_ty hm2 hv hg2 hn hd) pa_nil hs2) hs) (by decide) (by decide) hs hpl) (ha H s _ fun v G2 H2 y p => by
    refine ⟨v, .ty T, .type (tyOf d), .type T, k, rfl, .ty T, (p.up y.gh).ty, kit_ty hk, ?_⟩
    exact (q.ext y).now y.gh (.bl k))
/-- isinstance(x, (list, tuple)) -/
def isSeq : PyData → Bool
  | .list _ => true
  | .tuple _ => true
  | _ => false
theorem kit_seq {K : PySem.W.Frag} : ∀ d : PyData, (∀ kvs, d ≠ .dict kvs) → PySem.W.kitAny K (.type (tyOf d)) [.type "list", .type "tuple"] = some (isSeq d) := fun d hd => by
  cases d with
  | dict kvs => exact absurd rfl (hd kvs)
  | list _ => exact kitAny_cons (b := true) (kit_ty (by simp only [tyOf]; decide +kernel)) (fun h => by cases h) (fun _ => rfl)
  | tuple _ => exact kitAny_cons (b := false) (kit_ty (by simp only [tyOf]; decide +kernel)) (fun _ => kitAny_cons (b := true) (kit_ty (by simp only [tyOf]; decide +kernel)) (fun h => by cases h) fun _ => rfl) (fun h => by cases h)
  | _ => exact kitAny_cons (b := false) (kit_ty (by simp only [tyOf]; decide +kernel)) (fun _ => kitAny_cons (b := false) (kit_ty (by simp only [tyOf]; decide +kernel)) (fun _ => kitAny_nil) fun h => by cases h) (fun h => by cases h)
theorem kit_bs {K : PySem.W.Frag} : ∀ d : PyData, (∀ kvs, d ≠ .dict kvs) → PySem.W.kitAny K (.type (tyOf d)) [.type "bool", .type "str"] = some (match d with | .bool _ => true | .str _ => true | _ => false) := fun d hd => by
  cases d with
  | dict kvs => exact absurd rfl (hd kvs)
  | bool _ => exact kitAny_cons (b := true) (kit_ty (by simp only [tyOf]; decide +kernel)) (fun h => by cases h) (fun _ => rfl)
  | str _ => exact kitAny_cons (b := false) (kit_ty (by simp only [tyOf]; decide +kernel)) (fun _ => kitAny_cons (b := true) (kit_ty (by simp only [tyOf]; decide +kernel)) (fun h => by cases h) fun _ => rfl) (fun h => by cases h)
  | _ => exact kitAny_cons (b := false) (kit_ty (by simp only [tyOf]; decide +kernel)) (fun _ => kitAny_cons (b := false) (kit_ty (by simp only [tyOf]; decide +kernel)) (fun _ => kitAny_nil) fun h => by cases h) (fun h => by cases h)
theorem Dq.nodict {G : Hp} {v : V} {d : PyData} (h : Dq G v d) : ∀ kvs, d ≠ .dict kvs := fun kvs e => by
  subst e
  cases h
theorem ed_isi2 {x y : Str} {T U : String} {k : Bool} {j} (hm : X.mg "isinstance" = none) (ha : ED X a σ G d) (hm2 : X.mg x = none) (hv : bootBuiltins x = some (.type T)) (hm3 : X.mg y = none) (hv3 : bootBuiltins y = some (.type U))
    (hk : (∀ kvs, d ≠ .dict kvs) → PySem.W.kitAny X.K (.type (tyOf d)) [.type T, .type U] = some k)
    (hg : Gl X "isinstance" := by rfl) (hg2 : Gl X x := by rfl) (hn : x ≠ "__name__" := by decide) (hd : (x == ("__debug__" : Str)) = false := by decide) (hg3 : Gl X y := by rfl) (hn3 : y ≠ "__name__" := by decide) (hd3 : (y == ("__debug__" : Str)) = false := by decide)
    (hs : starEach [a, .Tuple [.Name x p2, .Name y p3] j p4] X.env = (false, eval a X.env) :: starEach [.Tuple [.Name x p2, .Name y p3] j p4] X.env := by rfl)
    (hs2 : starEach [.Tuple [.Name x p2, .Name y p3] j p4] X.env = (false, eval (.Tuple [.Name x p2, .Name y p3] j p4) X.env) :: starEach [] X.env := by rfl)
    (hs3 : starEach [.Name x p2, .Name y p3] X.env = (false, eval (.Name x p2) X.env) :: starEach [.Name y p3] X.env := by rfl) (hs4 : starEach [.Name y p3] X.env = (false, eval (.Name y p3) X.env) :: starEach [] X.env := by rfl)
    (hpl : (backTo pos (starEach [.Tuple [.Name x p2, .Name y p3] j p4] X.env)).any (·.1) = false := by rfl) : ED X (.Call (.Name "isinstance" p) [a, .Tuple [.Name x p2, .Name y p3] j p4] [] pos) σ G (.bool k) := fun H s Q q =>
  we (pe_callB call_isiT hg hm boot_isinstance (pa_cons pe (pa_cons (pe_tup (pa_cons (pe_ty hm2 hv hg2 hn hd) (pa_cons (pe_ty hm3 hv3 hg3 hn3 hd3) pa_nil hs4) hs3)) pa_nil hs2) hs) (by decide) (by decide) hs hpl) (ha H s _ fun v G2 H2 y2 p => by
    refine ⟨by show 2 ≤ sizeLine; decide, fun t ht => ?_⟩
    refine ⟨v, t, _, .type (tyOf d), _, k, rfl, upd_same, .cons (.ty T) (.cons (.ty U) .nil), (p.up (y2.gh.trans (Same.laid ht))).ty, hk (Dq.nodict p), ?_⟩
    have z := y2.trans (Ext.new (o := .tup [.ty T, .ty U]) y2.gh ht)
    exact (q.ext z).now z.gh (.bl k))

/-! ### calls of defs -/
/-- a def's place and promise -/
structure Cal (P : Program) (w : World) (K : PySem.W.Frag) (mg : Str → Option Value) (base : Heap) (CX : CXT) (x : Str) (ps : List Str) (k : Nat) (sp : Sp) : Prop where
  ex : ∃ f fd, FnOk P w K mg base CX k f fd ps sp ∧ mg x = some (.ref f) ∧ PySem.W.keepIn K (.ref f) = true ∧ Binds K fd ps []
abbrev CalX (X : Cx) (CX : CXT) (x : Str) (ps : List Str) (k : Nat) (sp : Sp) : Prop := Cal X.prog X.w X.K X.mg X.base CX x ps k sp
/-- a def that gives data for data, and changes nothing -/
def PureSp (R : List PyData → PyData → Prop) : Sp := fun vs H Q _ => ∃ G ds d, Same G H ∧ DqAll G vs ds ∧ R ds d ∧ RD G H d Q
theorem wcall {CX : CXT} {x : Str} {ps : List Str} {k : Nat} {sp : Sp} {Q : VK} {E : XK} (C : CalX X CX x ps k sp) (hr : Room k X.A) (hx : Passes CX X E) (h : WA X (e :: es) σ H fun vs H1 => sp vs H1 Q E) (hg : Gl X x := by rfl) (hdb : (x == ("__debug__" : Str)) = false := by decide)
    (he : starEach (e :: es) X.env = (false, eval e X.env) :: starEach es X.env := by rfl) (hpl : (backTo pos (starEach es X.env)).any (·.1) = false := by rfl) : WE X (.Call (.Name x p) (e :: es) [] pos) σ H Q := by
  obtain ⟨f, fd, F, hm, hk, hb⟩ := C.ex
  refine we (pe_call F hr hg hm hk hb .nil hx pa hdb he hpl) ?_
  unfold tCall
  simp only [List.append_nil]
  exact h
theorem ed_call {CX : CXT} {x : Str} {ps : List Str} {k : Nat} {R : List PyData → PyData → Prop} {E : XK} (C : CalX X CX x ps k (PureSp R)) (hr : Room k X.A) (hx : Passes CX X E) (ha : EDs X (e :: es) σ G ds) (hR : R ds d) (hg : Gl X x := by rfl) (hdb : (x == ("__debug__" : Str)) = false := by decide)
    (he : starEach (e :: es) X.env = (false, eval e X.env) :: starEach es X.env := by rfl) (hpl : (backTo pos (starEach es X.env)).any (·.1) = false := by rfl) : ED X (.Call (.Name x p) (e :: es) [] pos) σ G d := fun H s Q q =>
  wcall (E := E) C hr hx (ha H s _ fun vs G2 H2 y ps => ⟨G2, ds, d, y.gh, ps, hR, q.ext y⟩) hg hdb he hpl

/-! ### statements -/
variable {D : Ends} {st : Stmt} {sts sts' : List Stmt}
theorem b_nil (h : D.nx σ H) : WB X [] D σ H := wb pss_nil h
theorem b_cons (h : WS X st { D with nx := WB X sts D } σ H) : WB X (st :: sts) D σ H := wb (pss_cons ps pb) h
theorem b_one (h : WS X st D σ H) : WB X [st] D σ H := wb (pss_one ps) h
theorem s_set {x : Str} (i : Nat) (hN : X.N.Nodup) (h : ED X e σ G d) (s : Same G H) (k : ∀ v G2 H2, Ext G H G2 H2 → Dq G2 v d → D.nx (σ.set i (some v)) H2) (hi : X.N[i]? = some x := by rfl) (hx : Loc X.env.scope x := by first | exact .inl rfl | exact .inr rfl)
    (hs : swapsWith e (some (.Name x p)) pos.line X.env = pure false := by rfl) (hf : X.fn x = true ∨ X.env.scope.names.lookup x = some .local := by first | exact .inl rfl | exact .inr rfl) : WS X (.Assign [.Name x p] e pos) D σ H :=
  ws (ps_set (i := i) hN hi hx pe hs hf) (h H s _ k)
/-- .. of a value that is no datum -/
theorem s_setV {x : Str} (i : Nat) (hN : X.N.Nodup) (h : WE X e σ H fun v H2 => D.nx (σ.set i (some v)) H2) (hi : X.N[i]? = some x := by rfl) (hx : Loc X.env.scope x := by first | exact .inl rfl | exact .inr rfl)
    (hs : swapsWith e (some (.Name x p)) pos.line X.env = pure false := by rfl) (hf : X.fn x = true ∨ X.env.scope.names.lookup x = some .local := by first | exact .inl rfl | exact .inr rfl) : WS X (.Assign [.Name x p] e pos) D σ H :=
  ws (ps_set (i := i) hN hi hx pe hs hf) h
theorem s_ret (h : ED X e σ G d) (s : Same G H) (q : RD G H d D.rt) : WS X (.Return (some e) pos) D σ H := ws (ps_ret pe) (h H s _ q)
theorem s_retV (h : WE X e σ H D.rt) : WS X (.Return (some e) pos) D σ H := ws (ps_ret pe) h
theorem s_drop (h : ED X e σ G d) (s : Same G H) (k : ∀ G2 H2, Ext G H G2 H2 → D.nx σ H2) (hs : swapsWith e none pos.line X.env = pure false := by rfl) : WS X (.Expr e pos) D σ H := ws (ps_expr pe hs) (h H s _ fun v G2 H2 x _ => k G2 H2 x)
theorem s_dropV (h : WE X e σ H fun _ H2 => D.nx σ H2) (hs : swapsWith e none pos.line X.env = pure false := by rfl) : WS X (.Expr e pos) D σ H := ws (ps_expr pe hs) h
theorem s_if {k : Bool} (h : ET X c σ G k) (s : Same G H) (h1 : k = true → ∀ G2 H2, Ext G H G2 H2 → WB X sts D σ H2) (h2 : k = false → ∀ G2 H2, Ext G H G2 H2 → WB X sts' D σ H2) : WS X (.If c sts sts' pos) D σ H :=
  ws (ps_if pt pb pb) (h H s _ fun G2 H2 x => by
    cases k with
    | true => exact iteT (h1 rfl G2 H2 x)
    | false => exact iteF (h2 rfl G2 H2 x))
theorem s_ifV (h : WT X c σ H fun k H2 => if k = true then WB X sts D σ H2 else WB X sts' D σ H2) : WS X (.If c sts sts' pos) D σ H := ws (ps_if pt pb pb) h

/-! ### what is walked -/
/-- the walk J gives the data ds, one after another -/
structure Gives (J : It) (G : Hp) (ds : List PyData) : Prop where
  go : ∀ i G3 H3, Same G G3 → Same G3 H3 → i < ds.length → J.go i H3
  yld : ∀ i G3 H3 x H', Same G G3 → Same G3 H3 → i < ds.length → J.yld i H3 x H' → ∃ d G4, ds[i]? = some d ∧ Ext G3 H3 G4 H' ∧ Dq G4 x d
  stop : ∀ i G3 H3, Same G G3 → Same G3 H3 → ds.length ≤ i → J.stop i H3
def EI (X : Cx) (tg iter : Expr) (σ : St) (G : Hp) (ds : List PyData) : Prop := ∀ H, Same G H → ∀ R, (∀ J G2 H2, Ext G H G2 H2 → Gives J G2 ds → R J H2) → WI X tg iter σ H R
theorem Gives.lst {K : PySem.W.Frag} {G : Hp} {r : Addr} {xs : List V} {ds : List PyData} (h : G r = some (.lst xs)) (hd : DqAll G xs ds) : Gives (Itl K r) G ds where
  go := fun i G3 H3 s s3 hi => by
    rw [← hd.length] at hi
    exact ⟨xs, xs[i], .of (s3 _ _ (s _ _ h)), by simp [hi]⟩
  yld := fun i G3 H3 x H' s s3 hi hy => by
    obtain ⟨rfl, hy⟩ := hy
    have hx := hy xs (.of (s3 _ _ (s _ _ h)))
    obtain ⟨v, h1, h2⟩ := hd.get (List.getElem?_eq_getElem hi)
    rw [h1] at hx
    cases hx
    exact ⟨ds[i], G3, List.getElem?_eq_getElem hi, Ext.refl s3, h2.up s⟩
  stop := fun i G3 H3 s s3 hi => ⟨xs, .of (s3 _ _ (s _ _ h)), by rw [hd.length]; exact hi⟩
theorem Gives.tup {K : PySem.W.Frag} {G : Hp} {r : Addr} {xs : List V} {ds : List PyData} (h : Rd G r (.tup xs)) (hd : DqAll G xs ds) : Gives (Itt K r) G ds where
  go := fun i G3 H3 s s3 hi => by
    rw [← hd.length] at hi
    exact ⟨xs, xs[i], .inl ((h.up s).up s3), by simp [hi]⟩
  yld := fun i G3 H3 x H' s s3 hi hy => by
    obtain ⟨rfl, hy⟩ := hy
    have hx := hy xs (.inl ((h.up s).up s3))
    obtain ⟨v, h1, h2⟩ := hd.get (List.getElem?_eq_getElem hi)
    rw [h1] at hx
    cases hx
    exact ⟨ds[i], G3, List.getElem?_eq_getElem hi, Ext.refl s3, h2.up s⟩
  stop := fun i G3 H3 s s3 hi => ⟨xs, .inl ((h.up s).up s3), by rw [hd.length]; exact hi⟩
theorem rng_get (n i : Nat) (h : i < n) : ((List.range n).map fun k : Nat => PyData.int (k : Int))[i]? = some (.int (i : Int)) := by
  rw [List.getElem?_map, List.getElem?_range h]
  rfl
theorem Gives.rng {G : Hp} (n : Nat) : Gives (Itr 0 n) G ((List.range n).map fun i : Nat => PyData.int (i : Int)) where
  go := fun i G3 H3 s s3 hi => by
    have h : i < n := by simpa using hi
    exact h
  yld := fun i G3 H3 x H' s s3 hi hy => by
    obtain ⟨rfl, rfl⟩ := hy
    have hi' : i < n := by simpa using hi
    refine ⟨.int (i : Int), G3, rng_get n i hi', Ext.refl s3, ?_⟩
    rw [Int.zero_add]
    exact .int _
  stop := fun i G3 H3 s s3 hi => by
    have h : n ≤ i := by simpa using hi
    exact h
variable {tg iter : Expr}
/-- over a list or a tuple -/
theorem ei_seq (hd : seqOf d = some ds) (h : ED X iter σ G d) : EI X tg iter σ G ds := fun H s R q => by
  have key : ∀ v G2 H2, Ext G H G2 H2 → Dq G2 v d → (∃ a, v = .ref a ∧ (∃ xs, SqL X.K H2 a xs) ∧ R (Itl X.K a) H2) ∨ (∃ a, v = .ref a ∧ (∃ xs, SqT X.K H2 a xs) ∧ R (Itt X.K a) H2) := fun v G2 H2 y p => by
    obtain ⟨r, xs, rfl, h1, h2⟩ := p.seq hd
    rcases h2 with ⟨_, h2⟩ | ⟨_, h2⟩
    · exact .inl ⟨r, rfl, ⟨xs, .of (y.gh _ _ h2)⟩, q _ G2 H2 y (Gives.lst h2 h1)⟩
    · exact .inr ⟨r, rfl, ⟨xs, .inl (h2.up y.gh)⟩, q _ G2 H2 y (Gives.tup h2 h1)⟩
  cases d with
  | list _ =>
    refine wi (pi_list pe) (h H s _ fun v G2 H2 y p => ?_)
    rcases key v G2 H2 y p with h | ⟨a, rfl, ⟨xs, hx⟩, _⟩
    · exact h
    · obtain ⟨r, ys, e, _, h2⟩ := p.seq hd
      cases e
      rcases h2 with ⟨_, h2⟩ | ⟨e, _⟩
      · exact ⟨a, rfl, ⟨ys, .of (y.gh _ _ h2)⟩, q _ G2 H2 y (Gives.lst h2 (by cases p with | lst a b => cases hd; rw [a] at h2; cases h2; exact b))⟩
      · cases e
  | tuple _ =>
    refine wi (pi_tup pe) (h H s _ fun v G2 H2 y p => ?_)
    cases p with
    | tupR a b =>
      cases hd
      exact ⟨_, rfl, ⟨_, .inl (a.up y.gh)⟩, q _ G2 H2 y (Gives.tup a b)⟩
  | _ => cases hd
theorem ei_range {n : Nat} (hz : n ≤ 100000) (hm : X.mg "range" = none) (h : ED X a σ G (.int (n : Int))) (hg : Gl X "range" := by rfl) (hs : starEach [a] X.env = [(false, eval a X.env)] := by rfl) : EI X tg (.Call (.Name "range" p) [a] [] pos) σ G ((List.range n).map fun i : Nat => PyData.int (i : Int)) := fun H s R q =>
  wi (pi_range1 hg hm pa hs) (eds_cons h eds_nil hs H s _ fun vs G2 H2 y ps => by
    obtain ⟨v, rfl, p⟩ := ps.one
    cases p
    refine ⟨(n : Int), rfl, by omega, by omega, ?_⟩
    rw [Int.toNat_natCast]
    exact q _ G2 H2 y (Gives.rng n))
end
end Wk
set_option maxHeartbeats 2000000
/-! Comprehensions and loops over data. -/
namespace Wk
open PySem PySem.Spec PyProof.Rows L2
structure WTs (X : Cx) (ifs : List Expr) (σ : St) (H : Hp) (Q : Bool → Hp → Prop) : Prop where
  run : ∀ pins s, Inv X pins σ H s →
  wpAny (model X.prog X.w) X.A (forIn ifs true fun c r => if r = true then do let ok ← isTrue c X.env (eval c X.env); pure (ForInStep.yield ok) else pure (ForInStep.yield r)) (TP X pins σ Q) X.xe s
theorem pts {X : Cx} {ifs : List Expr} : PTs X ifs (WTs X ifs) := ⟨fun pins s _ _ _ I h => h.run pins s I⟩
theorem wts {X : Cx} {ifs : List Expr} {t : TT} {σ : St} {H : Hp} {Q : Bool → Hp → Prop} (h : PTs X ifs t) (q : t σ H Q) : WTs X ifs σ H Q := ⟨fun pins s I => h.run pins s σ H Q I q⟩
def ETs (X : Cx) (ifs : List Expr) (σ : St) (G : Hp) (b : Bool) : Prop := ∀ H, Same G H → ∀ Q, (∀ G2 H2, Ext G H G2 H2 → Q b H2) → WTs X ifs σ H Q
section
variable {X : Cx} {e a b c : Expr} {es : List Expr} {σ : St} {G G1 H : Hp} {d da db dc : PyData} {ds : List PyData} {pos p p2 p3 p4 : Pos} {tg iter elt kx vx : Expr} {ifs : List Expr} {scope : Scope} {own : List (Str × Nat)}
theorem ets_nil : ETs X [] σ G true := fun H s Q q => wts pts_nil (q G H (Ext.refl s))
theorem ets_one {k : Bool} (h : ET X c σ G k) : ETs X [c] σ G k := fun H s Q q => wts (pts_one pt) (h H s Q q)

/-! ### what a target binds: the slots behind it are such that P holds -/
def Bnd (X : Cx) (tg : Expr) (σ : St) (G : Hp) (d : PyData) (P : St → Prop) : Prop := ∀ H v, Same G H → Dq G v d → ∀ Q : St → Hp → Prop, (∀ σ2, P σ2 → Q σ2 H) → WG X tg v σ H Q
theorem bnd_name {x : Str} (j : Nat) (hN : X.N.Nodup) (hi : X.N[j]? = some x := by rfl) (hx : Loc X.env.scope x := by first | exact .inl rfl | exact .inr rfl) (hf : X.fn x = true ∨ X.env.scope.names.lookup x = some .local := by first | exact .inl rfl | exact .inr rfl) :
    Bnd X (.Name x p) σ G d (fun σ2 => ∃ v, Dq G v d ∧ σ2 = σ.set j (some v)) := fun H v s h Q q => wg (pg_name (i := j) hN hi hx hf) (q _ ⟨v, h, rfl⟩)
theorem bnd_pair {x y : Str} {k : Nat} (i j : Nat) (hd : seqOf d = some [da, db]) (hc : X.calm = true) (hN : X.N.Nodup) (hi : X.N[i]? = some x := by rfl) (hx : Loc X.env.scope x := by first | exact .inl rfl | exact .inr rfl) (hf : X.fn x = true ∨ X.env.scope.names.lookup x = some .local := by first | exact .inl rfl | exact .inr rfl)
    (hj : X.N[j]? = some y := by rfl) (hy : Loc X.env.scope y := by first | exact .inl rfl | exact .inr rfl) (hf2 : X.fn y = true ∨ X.env.scope.names.lookup y = some .local := by first | exact .inl rfl | exact .inr rfl)
    (hn : (assignEach [.Name x p2, .Name y p3] X.env).length = 2 := by rfl) (hst : (assignEach [.Name x p2, .Name y p3] X.env).findIdx? (·.1) = none := by rfl)
    (h1 : (assignEach [.Name x p2, .Name y p3] X.env).map (·.2) = assign (.Name x p2) X.env :: (assignEach [.Name y p3] X.env).map (·.2) := by rfl) (h2 : (assignEach [.Name y p3] X.env).map (·.2) = assign (.Name y p3) X.env :: (assignEach [] X.env).map (·.2) := by rfl) :
    Bnd X (.Tuple [.Name x p2, .Name y p3] k p) σ G d (fun σ2 => ∃ v w, Dq G v da ∧ Dq G w db ∧ σ2 = (σ.set i (some v)).set j (some w)) := fun H v s h Q q => by
  obtain ⟨r, xs, rfl, hh, hs⟩ := h.seq hd
  obtain ⟨v1, v2, rfl, q1, q2⟩ := hh.two
  have names := pgs_cons (X := X) (pg_name (i := i) (pos := p2) hN hi hx hf) (pgs_cons (pg_name (i := j) (pos := p3) hN hj hy hf2) pgs_nil h2) h1
  have fin := q _ ⟨v1, v2, q1, q2, rfl⟩
  rcases hs with ⟨_, hs⟩ | ⟨_, hs⟩
  · exact wg (pg_unl hc names hn hst) ⟨r, _, rfl, .of (s _ _ hs), rfl, v1, [v2], rfl, v2, [], rfl, rfl, fin⟩
  · exact wg (pg_tup hc names hn hst) ⟨r, _, rfl, .inl (hs.up s), rfl, v1, [v2], rfl, v2, [], rfl, rfl, fin⟩

/-! ### the block's readings, whatever frame it gets -/
def bG (X : Cx) (scope : Scope) (tg : Expr) : TG := fun v σ H Q => ∀ s0 H0 C cl fp, WG (X.blk s0 H0 scope (compEnvC scope cl C X.env) fp) tg v σ H Q
def bT (X : Cx) (scope : Scope) (ifs : List Expr) : TT := fun σ H Q => ∀ s0 H0 C cl fp, WTs (X.blk s0 H0 scope (compEnvC scope cl C X.env) fp) ifs σ H Q
def bE (X : Cx) (scope : Scope) (e : Expr) : TE := fun σ H Q => ∀ s0 H0 C cl fp, WE (X.blk s0 H0 scope (compEnvC scope cl C X.env) fp) e σ H Q
theorem bGp {X : Cx} {scope : Scope} {tg : Expr} (s0 : Shared) (H0 : Hp) (C : Addr) (cl : List (Str × Addr)) (fp : List Addr) : PG (X.blk s0 H0 scope (compEnvC scope cl C X.env) fp) tg (bG X scope tg) := ⟨fun pins s σ H v u Q I r h => (h s0 H0 C cl fp).run pins s u I r⟩
theorem bTp {X : Cx} {scope : Scope} {ifs : List Expr} (s0 : Shared) (H0 : Hp) (C : Addr) (cl : List (Str × Addr)) (fp : List Addr) : PTs (X.blk s0 H0 scope (compEnvC scope cl C X.env) fp) ifs (bT X scope ifs) := ⟨fun pins s σ H Q I h => (h s0 H0 C cl fp).run pins s I⟩
theorem bEp {X : Cx} {scope : Scope} {e : Expr} (s0 : Shared) (H0 : Hp) (C : Addr) (cl : List (Str × Addr)) (fp : List Addr) : PE (X.blk s0 H0 scope (compEnvC scope cl C X.env) fp) e (bE X scope e) := ⟨fun pins s σ H Q I h => (h s0 H0 C cl fp).run pins s I⟩
/-- what holds in every block of this scope -/
abbrev InB (X : Cx) (scope : Scope) (P : Cx → Prop) : Prop := ∀ s0 H0 C cl fp, P (X.blk s0 H0 scope (compEnvC scope cl C X.env) fp)

theorem take_succ {α : Type} {xs : List α} {i : Nat} {x : α} (h : xs[i]? = some x) : xs.take (i + 1) = xs.take i ++ [x] := by
  rw [List.take_add_one, h]
  rfl
/-- [elt for tg in iter if ..] over the data xs: what pr keeps, each by g -/
theorem lc_read {α : Type} (xs : List α) (enc : α → PyData) (pr : α → Bool) (g : α → PyData) (P : α → Hp → St → Prop) (vs : List Nat) (hz : xs.length ≤ 100000) (hi : EI X tg iter σ G (xs.map enc))
    (hb : ∀ x ∈ xs, ∀ G3, Same G G3 → InB X scope fun Y => Bnd Y tg (wipe σ vs) G3 (enc x) (P x G3)) (hw : ∀ x ∈ xs, ∀ G3 σ2, P x G3 σ2 → wipe σ2 vs = wipe σ vs)
    (ht : ∀ x ∈ xs, ∀ G3, Same G G3 → ∀ σ2, P x G3 σ2 → InB X scope fun Y => ETs Y ifs σ2 G3 (pr x))
    (he : ∀ x ∈ xs, pr x = true → ∀ G3, Same G G3 → ∀ σ2, P x G3 σ2 → InB X scope fun Y => ED Y elt σ2 G3 (g x))
    (s : Same G H) {Q : VK} (q : RD G H (.list ((xs.filter pr).map g)) Q) : tLc (WI X tg iter) (bG X scope tg) (bT X scope ifs) (bE X scope elt) vs σ H Q := by
  refine hi H s _ fun J G1 H1 y0 gv D hD => ?_
  have g1D : G1 D = none := y0.gh.free hD
  refine ⟨fun i m H' => m = xs.length - i ∧ i ≤ xs.length ∧ ∃ Gi acc, Ext G1 H1 Gi H' ∧ Gi D = none ∧ H' D = some (.lst acc) ∧ DqAll Gi acc (((xs.take i).filter pr).map g), ⟨_, rfl, Nat.zero_le _, G1, [], ⟨Same.refl _, Same.laid hD, y0.gh.mut g1D, fun _ _ h => h⟩, g1D, upd_same, .nil⟩, ?_⟩
  rintro i m H' ⟨rfl, hi', Gi, acc, yi, gD, hDi, hA⟩
  have hl : (xs.map enc).length = xs.length := List.length_map _
  by_cases hlt : i < xs.length
  · refine .inr ⟨gv.go i Gi H' yi.gg yi.gh (by rw [hl]; exact hlt), fun H7 => ∃ Gn acc, Ext G1 H1 Gn H7 ∧ Gn D = none ∧ H7 D = some (.lst acc) ∧ DqAll Gn acc (((xs.take (i + 1)).filter pr).map g), ?_, fun v H3 hy => ?_⟩
    · rintro H7 ⟨Gn, acc', a, b, c, d⟩
      exact ⟨xs.length - (i + 1), by omega, rfl, hlt, Gn, acc', a, b, c, d⟩
    · obtain ⟨d, G4, hd, y4, pd⟩ := gv.yld i Gi H' v H3 yi.gg yi.gh (by rw [hl]; exact hlt) hy
      obtain ⟨x, hx, rfl⟩ : ∃ x, xs[i]? = some x ∧ enc x = d := by
        rw [List.getElem?_map] at hd
        cases e : xs[i]? with
        | none => rw [e] at hd; cases hd
        | some x => rw [e] at hd; exact ⟨x, rfl, Option.some.inj hd⟩
      have hm : x ∈ xs := List.mem_of_getElem? hx
      have sG : Same G G4 := (y0.gg.trans yi.gg).trans y4.gg
      have nD : H' D ≠ none := by rw [hDi]; exact fun z => by cases z
      have g4D : G4 D = none := y4.out D nD gD
      have h3D : H3 D = some (.lst acc) := y4.hh _ _ hDi
      have tk : (xs.take (i + 1)).filter pr = (xs.take i).filter pr ++ (if pr x = true then [x] else []) := by
        rw [take_succ hx, List.filter_append, List.filter_cons, List.filter_nil]
      intro s0 H0 C cl fp
      refine hb x hm G4 sG s0 H0 C cl fp H3 v y4.gh pd _ fun σ2 hP => ⟨hw x hm G4 σ2 hP, ?_⟩
      intro s0 H0 C cl fp
      refine ht x hm G4 sG σ2 hP s0 H0 C cl fp H3 y4.gh _ fun G5 H5 y5 => ?_
      have n3 : H3 D ≠ none := by rw [h3D]; exact fun z => by cases z
      have g5D : G5 D = none := y5.out D n3 g4D
      have h5D : H5 D = some (.lst acc) := y5.hh _ _ h3D
      cases hp : pr x with
      | false =>
        refine iteF ⟨G5, acc, (yi.trans y4).trans y5, g5D, h5D, ?_⟩
        rw [tk, hp, if_neg (by simp), List.append_nil]
        exact hA.up (y4.gg.trans y5.gg)
      | true =>
        refine iteT ?_
        intro s0 H0 C cl fp
        refine (he x hm hp G4 sG σ2 hP s0 H0 C cl fp).up y5.gg H5 y5.gh _ fun w G6 H6 y6 pw => ?_
        have n5 : H5 D ≠ none := by rw [h5D]; exact fun z => by cases z
        have g6D : G6 D = none := y6.out D n5 g5D
        have h6D : H6 D = some (.lst acc) := y6.hh _ _ h5D
        have yy := ((yi.trans y4).trans y5).trans y6
        refine ⟨acc, h6D, ?_, G6, acc ++ [w], ⟨yy.gg, yy.hh.mut hD, yy.gh.mut g6D, yy.out⟩, g6D, upd_same, ?_⟩
        · rw [hA.length, List.length_map]
          have l1 := List.length_filter_le pr (xs.take i)
          have l2 : (xs.take i).length ≤ xs.length := List.length_take_le' _ _
          exact Nat.lt_of_le_of_lt (Nat.le_trans l1 (Nat.le_trans l2 hz)) (by decide)
        · rw [tk, hp, if_pos rfl, List.map_append]
          exact DqAll.snoc pw (hA.up ((y4.gg.trans y5.gg).trans y6.gg))
  · have e : i = xs.length := by omega
    subst e
    rw [List.take_length] at hA
    refine .inl ⟨gv.stop _ Gi H' yi.gg yi.gh (by rw [hl]; exact Nat.le_refl _), q _ (upd Gi D (.lst acc)) H' (y0.trans ⟨yi.gg.trans (Same.laid gD), yi.hh, fun b o hb => ?_, fun b h1 h2 => ?_⟩) (.lst upd_same (hA.up (Same.laid gD)))⟩
    · by_cases z : b = D
      · subst z
        rw [upd_same] at hb
        cases hb
        exact hDi
      · rw [upd_ne z] at hb
        exact yi.gh b o hb
    · have z : b ≠ D := fun z => h1 (by rw [z]; exact hD)
      rw [upd_ne z]
      exact yi.out b h1 h2
theorem ed_lc {α : Type} (xs : List α) (enc : α → PyData) (pr : α → Bool) (g : α → PyData) (P : α → Hp → St → Prop) (own : List (Str × Nat)) (hz : xs.length ≤ 100000) (hc : X.calm = true) (hN : X.N.Nodup) (ok : BlkOk X.N X.env.scope scope own) (hi : EI X tg iter σ G (xs.map enc))
    (hb : ∀ x ∈ xs, ∀ G3, Same G G3 → InB X scope fun Y => Bnd Y tg (wipe σ (own.map (·.2))) G3 (enc x) (P x G3)) (hw : ∀ x ∈ xs, ∀ G3 σ2, P x G3 σ2 → wipe σ2 (own.map (·.2)) = wipe σ (own.map (·.2)))
    (ht : ∀ x ∈ xs, ∀ G3, Same G G3 → ∀ σ2, P x G3 σ2 → InB X scope fun Y => ETs Y ifs σ2 G3 (pr x))
    (he : ∀ x ∈ xs, pr x = true → ∀ G3, Same G G3 → ∀ σ2, P x G3 σ2 → InB X scope fun Y => ED Y elt σ2 G3 (g x)) (hs : ∀ x, foldedSetIterable iter X.env x = pure x := by intro _; rfl) :
    ED X (.ListComp elt [⟨tg, iter, ifs, 0⟩] scope pos) σ G (.list ((xs.filter pr).map g)) := fun H s Q q =>
  we (pe_lc hc hN pi ok bGp bTp bEp hs) (lc_read xs enc pr g P _ hz hi hb hw ht he s q)
/-- y = [..], y a plain local -/
theorem s_lc {α : Type} {D : Ends} {y : Str} {py spos : Pos} (i : Nat) (xs : List α) (enc : α → PyData) (pr : α → Bool) (g : α → PyData) (P : α → Hp → St → Prop) (own : List (Str × Nat)) (hz : xs.length ≤ 100000) (hc : X.calm = true) (hN : X.N.Nodup) (ok : BlkOk X.N X.env.scope scope own)
    (hsw : swapsWith (.ListComp elt [⟨tg, iter, ifs, 0⟩] scope pos) (some (.Name y py)) spos.line X.env = pure true) (hi : EI X tg iter σ G (xs.map enc))
    (hb : ∀ x ∈ xs, ∀ G3, Same G G3 → InB X scope fun Y => Bnd Y tg (wipe σ (own.map (·.2))) G3 (enc x) (P x G3)) (hw : ∀ x ∈ xs, ∀ G3 σ2, P x G3 σ2 → wipe σ2 (own.map (·.2)) = wipe σ (own.map (·.2)))
    (ht : ∀ x ∈ xs, ∀ G3, Same G G3 → ∀ σ2, P x G3 σ2 → InB X scope fun Y => ETs Y ifs σ2 G3 (pr x))
    (he : ∀ x ∈ xs, pr x = true → ∀ G3, Same G G3 → ∀ σ2, P x G3 σ2 → InB X scope fun Y => ED Y elt σ2 G3 (g x))
    (s : Same G H) (k : ∀ v G2 H2, Ext G H G2 H2 → Dq G2 v (.list ((xs.filter pr).map g)) → D.nx (σ.set i (some v)) H2) (hy : X.N[i]? = some y := by rfl) (hyl : X.env.scope.names.lookup y = some .local := by rfl) (hs : ∀ x, foldedSetIterable iter X.env x = pure x := by intro _; rfl) :
    WS X (.Assign [.Name y py] (.ListComp elt [⟨tg, iter, ifs, 0⟩] scope pos) spos) D σ H :=
  ws (ps_setLc (i := i) hc hN hy hyl hsw pi ok bGp bTp bEp hs) (lc_read xs enc pr g P _ hz hi hb hw ht he s k)
theorem filter_yes {α : Type} (xs : List α) : xs.filter (fun _ => true) = xs := by simp

/-! ### for over data: the slots, what is known, the heap -/
theorem s_for {α : Type} {D : Ends} {body : List Stmt} (xs : List α) (enc : α → PyData) (P : α → Hp → St → St → Prop) (I : Nat → St → Hp → Hp → Prop) (hp : PassesOwn (model X.prog X.w) X.A X.env X.xe) (hc : X.calm = true) (hi : EI X tg iter σ G (xs.map enc)) (s : Same G H)
    (h0 : ∀ G1 H1, Ext G H G1 H1 → I 0 σ G1 H1) (hI : ∀ i σ' G' H', I i σ' G' H' → Same G' H')
    (hb : ∀ x ∈ xs, ∀ G3, Same G G3 → ∀ σ', Bnd X tg σ' G3 (enc x) (P x G3 σ'))
    (hs : ∀ i x σ' G' H' G3 H3 σ2, xs[i]? = some x → I i σ' G' H' → Same G G' → Ext G' H' G3 H3 → P x G3 σ' σ2 → WB X body { D with nx := fun σ4 H4 => ∃ G4, I (i + 1) σ4 G4 H4 ∧ Same G3 G4, ct := fun σ4 H4 => ∃ G4, I (i + 1) σ4 G4 H4 ∧ Same G3 G4, bk := D.nx } σ2 H3)
    (hd : ∀ σ' G' H', I xs.length σ' G' H' → Same G G' → D.nx σ' H') (hsi : ∀ x, foldedSetIterable iter X.env x = pure x := by intro _; rfl) : WS X (.For tg iter body [] pos) D σ H :=
  ws (ps_for hp hc pi pg pb hsi) (hi H s _ fun J G1 H1 y0 gv => by
    have hl : (xs.map enc).length = xs.length := List.length_map _
    refine ⟨fun i m σ' H' => m = xs.length - i ∧ i ≤ xs.length ∧ ∃ G', I i σ' G' H' ∧ Same G1 G', ⟨_, rfl, Nat.zero_le _, G1, h0 G1 H1 y0, Same.refl _⟩, ?_⟩
    rintro i m σ' H' ⟨rfl, hi', G', hI', s1⟩
    have gh := hI i σ' G' H' hI'
    by_cases hlt : i < xs.length
    · refine .inr ⟨gv.go i G' H' s1 gh (by rw [hl]; exact hlt), fun σ4 H4 => ∃ G4, I (i + 1) σ4 G4 H4 ∧ Same G1 G4, ?_, fun v H3 hy => ?_⟩
      · rintro σ4 H4 ⟨G4, a, b⟩
        exact ⟨xs.length - (i + 1), by omega, rfl, hlt, G4, a, b⟩
      · obtain ⟨d, G3, hd', y3, pd⟩ := gv.yld i G' H' v H3 s1 gh (by rw [hl]; exact hlt) hy
        obtain ⟨x, hx, rfl⟩ : ∃ x, xs[i]? = some x ∧ enc x = d := by
          rw [List.getElem?_map] at hd'
          cases e : xs[i]? with
          | none => rw [e] at hd'; cases hd'
          | some x => rw [e] at hd'; exact ⟨x, rfl, Option.some.inj hd'⟩
        refine hb x (List.mem_of_getElem? hx) G3 ((y0.gg.trans s1).trans y3.gg) σ' H3 v y3.gh pd _ fun σ2 hP => ?_
        have z := hs i x σ' G' H' G3 H3 σ2 hx hI' (y0.gg.trans s1) y3 hP
        have weak : ∀ σ4 H4, (∃ G4, I (i + 1) σ4 G4 H4 ∧ Same G3 G4) → ∃ G4, I (i + 1) σ4 G4 H4 ∧ Same G1 G4 := fun σ4 H4 ⟨G4, a, b⟩ => ⟨G4, a, (s1.trans y3.gg).trans b⟩
        refine ⟨fun pins st I0 => ?_⟩
        refine thn (z.run pins st I0) fun f s7 q7 => ?_
        cases f with
        | next => obtain ⟨σ7, H7, I7, q⟩ := q7; exact ⟨σ7, H7, I7, weak _ _ q⟩
        | cont => obtain ⟨σ7, H7, I7, q⟩ := q7; exact ⟨σ7, H7, I7, weak _ _ q⟩
        | brk => exact q7
        | ret v => exact q7
    · have e : i = xs.length := by omega
      subst e
      exact .inl ⟨gv.stop _ G' H' s1 gh (by rw [hl]; exact Nat.le_refl _), hd σ' G' H' hI' (y0.gg.trans s1)⟩)
end
end Wk
set_option maxHeartbeats 2000000
/-! The text: each def by its place, its names by their slots. -/
namespace Wk
open PySem PySem.Spec PyProof.Rows L2
def topS (i : Nat) : Stmt := PySem.Challenge.pw_masksmoved_k08_whole_which_can_be_seated.main.body.getD i (.Pass ⟨0, 0, 0, 0⟩)
abbrev sis_name : Stmt := topS 6
abbrev nis_name : List Str := ["value", "letter"]
theorem cis_name : FnScope nis_name ["value"] (defScope sis_name) := ⟨rfl, rfl, rfl, by decide +kernel, rfl, by decide +kernel, by decide +kernel⟩
abbrev sis_rising : Stmt := topS 7
abbrev nis_rising : List Str := ["row", "one", "other"]
theorem cis_rising : FnScope nis_rising ["row"] (defScope sis_rising) := ⟨rfl, rfl, rfl, by decide +kernel, rfl, by decide +kernel, by decide +kernel⟩
abbrev sis_pair : Stmt := topS 8
abbrev nis_pair : List Str := ["value"]
theorem cis_pair : FnScope nis_pair ["value"] (defScope sis_pair) := ⟨rfl, rfl, rfl, by decide +kernel, rfl, by decide +kernel, by decide +kernel⟩
abbrev sset_of : Stmt := topS 9
abbrev nset_of : List Str := ["some"]
theorem cset_of : FnScope nset_of ["some"] (defScope sset_of) := ⟨rfl, rfl, rfl, by decide +kernel, rfl, by decide +kernel, by decide +kernel⟩
abbrev stupled : Stmt := topS 10
abbrev ntupled : List Str := ["value", "part"]
theorem ctupled : FnScope ntupled ["value"] (defScope stupled) := ⟨rfl, rfl, rfl, by decide +kernel, rfl, by decide +kernel, by decide +kernel⟩
abbrev smasks_table : Stmt := topS 12
abbrev nmasks_table : List Str := ["book"]
theorem cmasks_table : FnScope nmasks_table ["book"] (defScope smasks_table) := ⟨rfl, rfl, rfl, by decide +kernel, rfl, by decide +kernel, by decide +kernel⟩
abbrev sare_names : Stmt := topS 14
abbrev nare_names : List Str := ["thing", "row", "one", "other"]
theorem care_names : FnScope nare_names ["thing"] (defScope sare_names) := ⟨rfl, rfl, rfl, by decide +kernel, rfl, by decide +kernel, by decide +kernel⟩
abbrev smay_table : Stmt := topS 15
abbrev nmay_table : List Str := ["book", "ready", "table", "task", "kind"]
theorem cmay_table : FnScope nmay_table ["book", "ready"] (defScope smay_table) := ⟨rfl, rfl, rfl, by decide +kernel, rfl, by decide +kernel, by decide +kernel⟩
abbrev sis_seating : Stmt := topS 16
abbrev nis_seating : List Str := ["book", "ready", "thing", "table", "cpu", "task"]
theorem cis_seating : FnScope nis_seating ["book", "ready", "thing"] (defScope sis_seating) := ⟨rfl, rfl, rfl, by decide +kernel, rfl, by decide +kernel, by decide +kernel⟩
abbrev scheck_tasks : Stmt := topS 17
abbrev ncheck_tasks : List Str := ["ready", "some", "known", "name", "task", "kind"]
theorem ccheck_tasks : FnScope ncheck_tasks ["ready", "some"] (defScope scheck_tasks) := ⟨rfl, rfl, rfl, by decide +kernel, rfl, by decide +kernel, by decide +kernel⟩
abbrev sseat : Stmt := topS 18
abbrev nseat : List Str := ["table", "found", "task", "tried", "cpu"]
theorem cseat : FnScope nseat ["table", "found", "task", "tried"] (defScope sseat) := ⟨rfl, rfl, rfl, by decide +kernel, rfl, by decide +kernel, by decide +kernel⟩
abbrev smatched : Stmt := topS 19
abbrev nmatched : List Str := ["table", "some", "found", "task", "cpu"]
theorem cmatched : FnScope nmatched ["table", "some"] (defScope smatched) := ⟨rfl, rfl, rfl, by decide +kernel, rfl, by decide +kernel, by decide +kernel⟩
abbrev scan_seat : Stmt := topS 20
abbrev ncan_seat : List Str := ["book", "ready", "some"]
theorem ccan_seat : FnScope ncan_seat ["book", "ready", "some"] (defScope scan_seat) := ⟨rfl, rfl, rfl, by decide +kernel, rfl, by decide +kernel, by decide +kernel⟩
abbrev sa_seating : Stmt := topS 21
abbrev na_seating : List Str := ["book", "ready", "some", "found", "task", "cpu"]
theorem ca_seating : FnScope na_seating ["book", "ready", "some"] (defScope sa_seating) := ⟨rfl, rfl, rfl, by decide +kernel, rfl, by decide +kernel, by decide +kernel⟩
abbrev sis_seating_of : Stmt := topS 22
abbrev nis_seating_of : List Str := ["book", "ready", "some", "thing", "cpu", "task"]
theorem cis_seating_of : FnScope nis_seating_of ["book", "ready", "some", "thing"] (defScope sis_seating_of) := ⟨rfl, rfl, rfl, by decide +kernel, rfl, by decide +kernel, by decide +kernel⟩
abbrev smost_seated : Stmt := topS 23
abbrev nmost_seated : List Str := ["book", "ready", "table", "found", "task", "kind"]
theorem cmost_seated : FnScope nmost_seated ["book", "ready"] (defScope smost_seated) := ⟨rfl, rfl, rfl, by decide +kernel, rfl, by decide +kernel, by decide +kernel⟩
abbrev s_law_box : Stmt := topS 25
abbrev n_law_box : List Str := ["_law_script", "_law_k", "_law_great_so", "_law_lead_so"]
theorem c_law_box : FnScope n_law_box ["_law_script", "_law_k"] (defScope s_law_box) := ⟨rfl, rfl, rfl, by decide +kernel, rfl, by decide +kernel, by decide +kernel⟩
abbrev s_law_take : Stmt := topS 26
abbrev n_law_take : List Str := ["_law_urn", "_law_low_so", "_law_drawn_here", "_law_once", "_law_far", "_law_twice"]
theorem c_law_take : FnScope n_law_take ["_law_urn", "_law_low_so"] (defScope s_law_take) := ⟨rfl, rfl, rfl, by decide +kernel, rfl, by decide +kernel, by decide +kernel⟩
abbrev s_law_cells : Stmt := topS 27
abbrev n_law_cells : List Str := ["_law_script", "_law_top", "_law_found", "_law_k", "_law_own", "_law_at_so"]
theorem c_law_cells : FnScope n_law_cells ["_law_script", "_law_top"] (defScope s_law_cells) := ⟨rfl, rfl, rfl, by decide +kernel, rfl, by decide +kernel, by decide +kernel⟩
abbrev s_law_of : Stmt := topS 28
abbrev n_law_of : List Str := ["_law_urn", "_law_some_so"]
theorem c_law_of : FnScope n_law_of ["_law_urn", "_law_some_so"] (defScope s_law_of) := ⟨rfl, rfl, rfl, by decide +kernel, rfl, by decide +kernel, by decide +kernel⟩
abbrev s_law_same : Stmt := topS 29
abbrev n_law_same : List Str := ["_law_got", "_law_goal", "_law_mine_so", "_law_own"]
theorem c_law_same : FnScope n_law_same ["_law_got", "_law_goal"] (defScope s_law_same) := ⟨rfl, rfl, rfl, by decide +kernel, rfl, by decide +kernel, by decide +kernel⟩
abbrev s_law_lists : Stmt := topS 30
abbrev n_law_lists : List Str := ["_law_thing_so", "_law_bit"]
theorem c_law_lists : FnScope n_law_lists ["_law_thing_so"] (defScope s_law_lists) := ⟨rfl, rfl, rfl, by decide +kernel, rfl, by decide +kernel, by decide +kernel⟩
abbrev s_law_mixed : Stmt := topS 31
abbrev n_law_mixed : List Str := ["_law_urn", "_law_pool", "_law_rest_so", "_law_found", "_law_turn"]
theorem c_law_mixed : FnScope n_law_mixed ["_law_urn", "_law_pool"] (defScope s_law_mixed) := ⟨rfl, rfl, rfl, by decide +kernel, rfl, by decide +kernel, by decide +kernel⟩
abbrev s_law_tags : Stmt := topS 32
abbrev n_law_tags : List Str := ["_law_urn", "_law_many_so", "_law_signs", "_law_first_so", "_law_by_so", "_law_row_so", "_law_stem", "_law_at_so", "_law_k", "_law_turn"]
theorem c_law_tags : FnScope n_law_tags ["_law_urn", "_law_many_so"] (defScope s_law_tags) := ⟨rfl, rfl, rfl, by decide +kernel, rfl, by decide +kernel, by decide +kernel⟩
abbrev s_law_other : Stmt := topS 33
abbrev n_law_other : List Str := ["_law_tags_here", "_law_pool", "_law_own"]
theorem c_law_other : FnScope n_law_other ["_law_tags_here"] (defScope s_law_other) := ⟨rfl, rfl, rfl, by decide +kernel, rfl, by decide +kernel, by decide +kernel⟩
abbrev s_law_host : Stmt := topS 34
abbrev n_law_host : List Str := ["_law_flat", "_law_bits", "_law_found", "_law_piece", "_law_words_so"]
theorem c_law_host : FnScope n_law_host ["_law_flat"] (defScope s_law_host) := ⟨rfl, rfl, rfl, by decide +kernel, rfl, by decide +kernel, by decide +kernel⟩
abbrev s_law_queue : Stmt := topS 35
abbrev n_law_queue : List Str := ["_law_flat", "_law_words_so"]
theorem c_law_queue : FnScope n_law_queue ["_law_flat"] (defScope s_law_queue) := ⟨rfl, rfl, rfl, by decide +kernel, rfl, by decide +kernel, by decide +kernel⟩
abbrev s_law_web : Stmt := topS 36
abbrev n_law_web : List Str := ["_law_urn", "_law_wide_so", "_law_many_so", "_law_tags_here", "_law_found", "_law_own"]
theorem c_law_web : FnScope n_law_web ["_law_urn", "_law_wide_so", "_law_many_so"] (defScope s_law_web) := ⟨rfl, rfl, rfl, by decide +kernel, rfl, by decide +kernel, by decide +kernel⟩
abbrev s_law_drawn : Stmt := topS 37
abbrev n_law_drawn : List Str := ["_law_urn", "_law_host_here", "_law_most_so", "_law_found", "_law_own"]
theorem c_law_drawn : FnScope n_law_drawn ["_law_urn", "_law_host_here", "_law_most_so"] (defScope s_law_drawn) := ⟨rfl, rfl, rfl, by decide +kernel, rfl, by decide +kernel, by decide +kernel⟩
abbrev s_law_all : Stmt := topS 38
abbrev n_law_all : List Str := ["_law_host_here", "_law_line_so", "_law_masks_so", "_law_found", "_law_own", "_law_tag", "_law_later_so", "_law_bits", "_law_full_so", "_law_bit"]
theorem c_law_all : FnScope n_law_all ["_law_host_here", "_law_line_so"] (defScope s_law_all) := ⟨rfl, rfl, rfl, by decide +kernel, rfl, by decide +kernel, by decide +kernel⟩
abbrev s_law_lots : Stmt := topS 39
abbrev n_law_lots : List Str := ["_law_tags_here", "_law_found", "_law_own", "_law_bits"]
theorem c_law_lots : FnScope n_law_lots ["_law_tags_here"] (defScope s_law_lots) := ⟨rfl, rfl, rfl, by decide +kernel, rfl, by decide +kernel, by decide +kernel⟩
abbrev s_law_heard : Stmt := topS 40
abbrev n_law_heard : List Str := ["_law_door", "_law_host_here", "_law_line_so", "_law_bits", "_law_found", "_law_caught", "error"]
theorem c_law_heard : FnScope n_law_heard ["_law_door", "_law_host_here", "_law_line_so", "_law_bits"] (defScope s_law_heard) := ⟨rfl, rfl, rfl, by decide +kernel, rfl, by decide +kernel, by decide +kernel⟩
abbrev s_law_asked : Stmt := topS 41
abbrev n_law_asked : List Str := ["_law_host_here", "_law_line_so", "_law_soft", "_law_rows", "_law_sets_so", "_law_most_so", "_law_bits", "_law_there", "_law_spots_so", "_law_got", "_law_bit", "_law_own"]
theorem c_law_asked : FnScope n_law_asked ["_law_host_here", "_law_line_so"] (defScope s_law_asked) := ⟨rfl, rfl, rfl, by decide +kernel, rfl, by decide +kernel, by decide +kernel⟩
abbrev s_law_by_hand_right : Stmt := topS 42
abbrev n_law_by_hand_right : List Str := ["_law_host_here", "_law_line_so", "_law_lots_so", "_law_got", "_law_goal", "_law_far", "_law_deep", "_law_own"]
theorem c_law_by_hand_right : FnScope n_law_by_hand_right [] (defScope s_law_by_hand_right) := ⟨rfl, rfl, rfl, by decide +kernel, rfl, by decide +kernel, by decide +kernel⟩
abbrev s_law_alike_right : Stmt := topS 43
abbrev n_law_alike_right : List Str := ["_law_host_here", "_law_line_so", "_law_got", "_law_goal", "_law_one_so", "_law_same_so", "_law_odd_so", "_law_door", "_law_mixed_here", "_law_line", "_law_own"]
theorem c_law_alike_right : FnScope n_law_alike_right ["_law_host_here", "_law_line_so"] (defScope s_law_alike_right) := ⟨rfl, rfl, rfl, by decide +kernel, rfl, by decide +kernel, by decide +kernel⟩
abbrev s_law_right : Stmt := topS 44
abbrev n_law_right : List Str := ["_law_urn", "_law_turn", "_law_host_here", "_law_line_so", "_law_lost", "_law_got", "_law_own", "_law_door"]
theorem c_law_right : FnScope n_law_right ["_law_urn"] (defScope s_law_right) := ⟨rfl, rfl, rfl, by decide +kernel, rfl, by decide +kernel, by decide +kernel⟩
abbrev slaw : Stmt := topS 45
abbrev nlaw : List Str := ["_law_script", "_law_rows", "_law_k"]
theorem claw : FnScope nlaw ["_law_script"] (defScope slaw) := ⟨rfl, rfl, rfl, by decide +kernel, rfl, by decide +kernel, by decide +kernel⟩
end Wk
set_option maxHeartbeats 2000000
/-! What every def's proof begins with. -/
namespace Wk
open PySem PySem.Spec PyProof.Rows L2
/-- the names that the module leaves to the built-ins; its constants -/
structure Bi (mg : Str → Option Value) : Prop where
  isinstance : mg "isinstance" = none
  len : mg "len" = none
  all : mg "all" = none
  zip : mg "zip" = none
  tuple : mg "tuple" = none
  list : mg "list" = none
  sorted : mg "sorted" = none
  set : mg "set" = none
  dict : mg "dict" = none
  sum : mg "sum" = none
  int : mg "int" = none
  range : mg "range" = none
  abs : mg "abs" = none
  enumerate : mg "enumerate" = none
  max : mg "max" = none
  bool : mg "bool" = none
  str : mg "str" = none
  LETTERS : ∃ t, mg "LETTERS" = some (.str "abcdefghijklmnopqrstuvwxyz" t)
  LONGEST : ∃ t, mg "LONGEST" = some (.int 8 t)
  PAIR : ∃ t, mg "PAIR" = some (.int 2 t)
section
variable {P : Program} {w : World} {K : PySem.W.Frag} {mg : Str → Option Value} {base : Heap}
/-- the context of a body that raises nothing -/
abbrev CXn (P : Program) (w : World) (K : PySem.W.Frag) (mg : Str → Option Value) (base : Heap) (N : List Str) (qual : Str) (st : Stmt) (f : Addr) (cdv : Value) (A : Around) (outer : List Env) (s : Shared) (H : Hp) (E : XK) : Cx :=
  (cxOf CX0 P w K mg base N qual (defScope st) f cdv A outer s H E).nox
/-- .. that may raise -/
abbrev CXr (P : Program) (w : World) (K : PySem.W.Frag) (mg : Str → Option Value) (base : Heap) (N : List Str) (qual : Str) (st : Stmt) (f : Addr) (cdv : Value) (A : Around) (outer : List Env) (s : Shared) (H : Hp) (E : XK) : Cx :=
  cxOf (L2.CX P w) P w K mg base N qual (defScope st) f cdv A outer s H E
/-- a def that gives data for data -/
theorem pure_ok {x qual : Str} {st : Stmt} {f : Addr} {fd : FuncData} {N ps : List Str} {k : Nat} {R : List PyData → PyData → Prop} (F : Fun K x qual st f fd) (S : FnScope N ps (defScope st)) (hlen : ∀ ds d, R ds d → ds.length = ps.length)
    (body : ∀ (cdv : Value) (A : Around) (outer : List Env) (s : Shared) (H : Hp) (E : XK) (G : Hp) (vs : List V) (ds : List PyData) (d : PyData) (Q : VK), Room k (A.deeper (envOfC qual (defScope st) s.heap.objs.size f cdv)) → Same G H → DqAll G vs ds → R ds d → RD G H d Q →
      WB (CXn P w K mg base N qual st f cdv A outer s H E) (defBody st) { nx := fun _ H' => Q .non H', rt := Q } (start N vs) H) : FnOk P w K mg base CX0 (k + 1) f fd ps (PureSp R) :=
  F.ok S (fun vs H Q E h => by
    obtain ⟨G, ds, d, _, h1, h2, _⟩ := h
    rw [h1.length]
    exact hlen _ _ h2) fun cdv A outer s H vs Q E hr h => by
    obtain ⟨G, ds, d, s1, h1, h2, q⟩ := h
    exact ⟨_, pb, body cdv A outer s H E G vs ds d Q hr s1 h1 h2 q⟩
/-- a def of another promise -/
theorem def_ok {x qual : Str} {st : Stmt} {f : Addr} {fd : FuncData} {N ps : List Str} {k : Nat} {sp : Sp} (F : Fun K x qual st f fd) (S : FnScope N ps (defScope st)) (hlen : ∀ vs H Q E, sp vs H Q E → vs.length = ps.length)
    (body : ∀ (cdv : Value) (A : Around) (outer : List Env) (s : Shared) (H : Hp) (E : XK) (vs : List V) (Q : VK), Room k (A.deeper (envOfC qual (defScope st) s.heap.objs.size f cdv)) → sp vs H Q E →
      WB (CXn P w K mg base N qual st f cdv A outer s H E) (defBody st) { nx := fun _ H' => Q .non H', rt := Q } (start N vs) H) : FnOk P w K mg base CX0 (k + 1) f fd ps sp :=
  F.ok S hlen fun cdv A outer s H vs Q E hr h => ⟨_, pb, body cdv A outer s H E vs Q hr h⟩
theorem defX_ok {x qual : Str} {st : Stmt} {f : Addr} {fd : FuncData} {N ps : List Str} {k : Nat} {sp : Sp} (F : Fun K x qual st f fd) (S : FnScope N ps (defScope st)) (hlen : ∀ vs H Q E, sp vs H Q E → vs.length = ps.length)
    (body : ∀ (cdv : Value) (A : Around) (outer : List Env) (s : Shared) (H : Hp) (E : XK) (vs : List V) (Q : VK), Room k (A.deeper (envOfC qual (defScope st) s.heap.objs.size f cdv)) → sp vs H Q E →
      WB (CXr P w K mg base N qual st f cdv A outer s H E) (defBody st) { nx := fun _ H' => Q .non H', rt := Q } (start N vs) H) : FnOk P w K mg base (L2.CX P w) (k + 1) f fd ps sp :=
  F.okX S hlen fun cdv A outer s H vs Q E hr h => ⟨_, pb, body cdv A outer s H E vs Q hr h⟩
/-- from a def's proof to what a caller takes -/
theorem cal {x : Str} {st : Stmt} {f : Addr} {fd : FuncData} {ps : List Str} {k : Nat} {sp : Sp} {CX : CXT} (F : Fun K x x st f fd) (hm : mg x = some (.ref f)) (b : Binds K fd ps []) (h : FnOk P w K mg base CX k f fd ps sp) : Cal P w K mg base CX x ps k sp := ⟨f, fd, h, hm, F.kp, b⟩
theorem Cal.mono {CX : CXT} {x : Str} {ps : List Str} {j k : Nat} {sp : Sp} (C : Cal P w K mg base CX x ps j sp) (h : j ≤ k) : Cal P w K mg base CX x ps k sp := by
  obtain ⟨f, fd, F, a, b, c⟩ := C.ex
  exact ⟨f, fd, F.mono h, a, b, c⟩
end
end Wk
set_option maxHeartbeats 4000000
/-! sorted of data: of lists and tuples, rows that begin with an empty one too. -/
namespace Wk
open PySem PySem.SeqAt PySem.W PySem.Calls PyProof.Rows
section
variable {prog : Program} {w : World} {A : Around} {E : Value → Shared → Prop} {s : Shared}
/-- what a tuple's own order answers when a sort asks it -/
theorem ask_tup {Q : Value → Shared → Prop} {p q : Addr} {us vs : Array Value} {eq lt : Nat → Bool} (hp : s.heap.IsTuple p us) (hq : s.heap.IsTuple q vs)
    (k1 : ∀ j (a : j < us.size) (b : j < vs.size), EqAt A.in1 s us[j] vs[j] (eq j)) (k2 : ∀ j (a : j < us.size) (b : j < vs.size), eq j = false → RcLt A.in1 s us[j] vs[j] (lt j))
    (fin : Q (.bool (firstLt eq lt (decide (us.size < vs.size)) (List.range (min us.size vs.size)))) s) : wpAny (model prog w) A (call (.builtin "tuple.__lt__") [.ref p, .ref q]) Q E s := by
  obtain ⟨⟨c1, d1, x1, l1⟩, o1, e1, n1, f1⟩ := id hp
  obtain ⟨⟨c2, d2, x2, l2⟩, o2, e2, n2, f2⟩ := id hq
  dsimp only at e1 f1 e2 f2
  subst e1
  subst f1
  subst e2
  subst f2
  exact call_meets F.slot_tuple_lt ⟨_, o1, rfl⟩ F.entry_tuple_lt (F.args_tuple_lt_2 _ _) (tuple_ltAt p q us vs n1 n2 d1 d2 l1 l2 eq lt) ⟨o1, o2, k1, k2, fin⟩
/-- one tuple against another, as keys of one type -/
theorem key_tup {xs ys : List PyData} {p q : Value} {as bs : List Addr} {Q : Bool → Shared → Prop} (rp : Reads s.heap p (.tuple xs) as) (rq : Reads s.heap q (.tuple ys) bs) (al : alike (.tuple xs) (.tuple ys) = true)
    (hu : A.units + min (PyData.tuple xs).depth (PyData.tuple ys).depth < cLine) (fin : Q (dataLt (.tuple xs) (.tuple ys)) s) : wpAny (model prog w) A (oneLt' true p q) Q E s := by
  have al' : alikeAll xs ys = true := by simpa [alike] using al
  cases rp with
  | @tuple i o us n _ as₁ a1 a2 a3 a4 =>
    cases rq with
    | @tuple j o' vs m _ bs₁ b1 b2 b3 b4 =>
      have z1 : us.size = xs.length := by simpa using ReadsAll.length _ _ _ a4
      have z2 : vs.size = ys.length := by simpa using ReadsAll.length _ _ _ b4
      rw [dataLt_tuple, ← firstLt_toks xs ys al', ← z1, ← z2] at fin
      rw [oneLt'_eq, if_pos rfl]
      refine wpAny_bind (wpAny_cRoomFor (room_here hu) (wpAny_bind (wpAny_callSpecialIfBound?_slot (T := "tuple") ⟨_, a1, a2⟩ F.slot_tuple_lt ?_)))
      refine ask_tup (eq := pairEq xs ys) (lt := fun j => dataLt (xs.getD j .none) (ys.getD j .none)) ⟨_, a1, a2, _, a3⟩ ⟨_, b1, b2, _, b3⟩ (fun j h1 h2 => ?_) (fun j h1 h2 hj => ?_) (wpAny_truthy_bool fin)
      · have z := eqAt_alikeAll xs ys A.in1 s us.toList vs.toList _ _ a4 b4 al' (room_in hu) j (by simpa using h1) (by simpa using h2)
        rw [Array.getElem_toList, Array.getElem_toList] at z
        exact z
      · have z := rcLt_alikeAll xs ys A.in1 s us.toList vs.toList _ _ a4 b4 al' (room_in hu) j (by simpa using h1) (by simpa using h2) hj
        rw [Array.getElem_toList, Array.getElem_toList] at z
        exact z
/-- the first items of tuples, looked at -/
theorem firsts_go {M : Model} : ∀ (vs : List Value) (ds : List PyData) {Q : List (Option Value) → Shared → Prop}, EachIs (fun v d => ∃ as, Reads s.heap v d as) vs ds → (∀ d ∈ ds, ∃ xs, d = .tuple xs) → (∀ fs, Q fs s) → wpAny M A (vs.mapM firstOfTuple') Q E s
  | _, _, Q, .nil, _, k => by
    rw [List.mapM_nil]
    exact wpAny_pure (k [])
  | _, _, Q, .cons (b := d) (bs := ds) ⟨as, r⟩ t, hd, k => by
    rw [List.mapM_cons]
    obtain ⟨xs, rfl⟩ := hd d (List.mem_cons_self ..)
    refine wpAny_bind ?_
    cases r with
    | tuple a1 a2 a3 a4 =>
      rw [kas_first_eq]
      refine wpAny_bind (Looks.here (show Looks M s.heap (typeOf (.ref _)) _ from (Looks.ld a1).andThen .now) ?_)
      rw [a2, if_neg (by simp)]
      refine wpAny_bind (listItems_at a1 a3 (wpAny_pure ?_))
      exact wpAny_bind (firsts_go _ ds t (fun d h => hd d (List.mem_cons_of_mem _ h)) fun fs => wpAny_pure (k _))
/-- rows of which the first one is empty -/
theorem kind_empty {M : Model} {vs : List Value} {ds : List PyData} {Q : SortKind → Shared → Prop} (e : EachIs (fun v d => ∃ as, Reads s.heap v d as) vs (.tuple [] :: ds)) (hd : ∀ d ∈ ds, ∃ xs, d = .tuple xs) (k : Q oneType' s) : wpAny M A (keyKind' vs.toArray) Q E s := by
  cases e with
  | cons h1 h2 =>
    rename_i v vs
    obtain ⟨as, r⟩ := h1
    have ty : ∀ u ∈ v :: vs, Looks M s.heap (typeOf u) (.type "tuple") := fun u hu => by
      rcases List.mem_cons.mp hu with rfl | hu
      · exact looks_reads r
      · obtain ⟨d, m, as', r'⟩ := h2.left u hu
        obtain ⟨xs, rfl⟩ := hd d m
        exact looks_reads r'
    rw [keyKind'_eq, List.mapM_toArray, map_eq_pure_bind]
    refine wpAny_bind (wpAny_bind ?_)
    rw [List.mapM_cons]
    cases r with
    | @tuple p o us n _ as₁ a1 a2 a3 a4 =>
      have u0 : us.toList = [] := List.length_eq_zero_iff.mp (by simpa using ReadsAll.length _ _ _ a4)
      have u1 : us = #[] := by
        apply Array.ext'
        exact u0
      subst u1
      refine wpAny_bind ?_
      rw [kas_first_eq]
      refine wpAny_bind (Looks.here (show Looks M s.heap (typeOf (.ref p)) _ from (Looks.ld a1).andThen .now) ?_)
      rw [a2, if_neg (by simp)]
      refine wpAny_bind (listItems_at a1 a3 (wpAny_pure ?_))
      refine wpAny_bind (firsts_go _ ds h2 hd fun fs => wpAny_pure (wpAny_pure ?_))
      rw [if_neg (by simp), if_neg (by simp)]
      rw [oneTypeOnly'_eq, List.mapM_toArray, map_eq_pure_bind]
      refine wpAny_bind (wpAny_bind (wpAny_bind (kas_mapM (r := Value.type "tuple") _ (fun u hu Q' hq => (ty u hu).here hq) (wpAny_pure ?_))))
      have all2 : ((List.map (fun _ => Value.type "tuple") (Value.ref p :: vs)).toArray.all fun x => x == Value.type "tuple") = true := by
        simp
      have fst : (List.map (fun _ => Value.type "tuple") (Value.ref p :: vs)).toArray[0]? = some (Value.type "tuple") := by simp
      rw [fst]
      dsimp only
      rw [all2]
      exact wpAny_pure (wpAny_pure k)
/-- what can be sorted here: the library's, and tuples of which the first one is empty -/
def SrtOk (ds : List PyData) : Prop := Sortable ds ∨ ∃ r, ds = .tuple [] :: r ∧ ∀ d ∈ r, ∃ xs, d = .tuple xs
theorem sorts_at {vs : List Value} {ds : List PyData} (e : EachIs (fun v d => ∃ as, Reads s.heap v d as) vs ds) (hal : AllAlike ds) (hk : SrtOk ds) (hu : ∀ d, d ∈ ds → A.units + d.depth < cLine) : SortsAt prog w A s (dataKind s.heap ds) vs := by
  rcases hk with hk | ⟨r, rfl, hr⟩
  · exact SortsAt.data e hal hk hu
  · have tup : ∀ d ∈ PyData.tuple [] :: r, ∃ xs, d = .tuple xs := fun d hd => by
      rcases List.mem_cons.mp hd with rfl | hd
      · exact ⟨[], rfl⟩
      · exact hr d hd
    refine ⟨fun v hv => ?_, oneType', ?_, fun h2 E Q hq => ?_⟩
    · obtain ⟨d, hd, as, rd⟩ := e.left v hv
      exact ⟨_, dataKind_some hal hd rd⟩
    · intro E x y a b Q ha hb hq
      obtain ⟨d, as, hd, ra, rfl⟩ := dataKind_inv ha
      obtain ⟨d', as', hd', rb, rfl⟩ := dataKind_inv hb
      obtain ⟨xs, rfl⟩ := tup d hd
      obtain ⟨ys, rfl⟩ := tup d' hd'
      rw [keyLt'_oneType]
      exact key_tup ra rb (hal _ hd _ hd') (Nat.lt_of_le_of_lt (Nat.add_le_add_left (Nat.min_le_left _ _) _) (hu _ hd)) hq
    · exact kind_empty e hr hq
/-! ### the items of a tuple, gathered -/
theorem tup_copy {l : Addr} {vs : List Value} {Q : List Value → Shared → Prop} (hl : s.heap.IsTuple l vs.toArray) (k : Q vs { s with heap := (s.heap.push (seqObj "list" #[] 0)).update s.heap.objs.size (Obj.mapSeq (· ++ vs.toArray)) }) (hz : vs.length ≤ sizeLine) :
    wpAny (model prog w) A (collect (.ref l)) Q E s := by
  obtain ⟨o, ho, hc, n, hd⟩ := id hl
  unfold collect
  refine wpAny_bind (wpAny_runValue (codeAny_builtin entry_proto_collect' ?_))
  show wpAny _ _ (newList [] >>= fun l' => again (.builtin "list.__iadd__" ⟨[l', .ref l], []⟩)) _ _ s
  refine wpAny_bind (wpAny_newList (wpAny_pure ⟨Code.quiet_builtin _ (by decide +kernel), codeAny_builtin entry_list_iadd' ?_⟩))
  show wpAny _ _ (Builtin.List.listExtendWith (.ref s.heap.objs.size) (.ref l) (.ref s.heap.objs.size)) _ _ ({ s with heap := s.heap.push (seqObj "list" #[] 0) } : Shared)
  unfold Builtin.List.listExtendWith
  have ho2 : (s.heap.push (seqObj "list" #[] 0)).get? l = some o := Heap.get?_push_of_some _ ho
  refine wpAny_bind (wpAny_typeOf (T := "tuple") ⟨o, ho2, hc⟩ ?_)
  rw [if_pos (by simp)]
  refine wpAny_bind (listItems_at ho2 hd ?_)
  refine wpAny_bind (listItems_at (xs := #[]) (n := 0) (Heap.get?_push_size _ rfl) rfl ?_)
  rw [if_neg (by simp)]
  refine wpAny_bind (listUpdate_at (xs := #[]) (n := 0) (Heap.get?_push_size _ rfl) rfl ?_ (Nat.zero_le _) (by show (#[] ++ vs.toArray).size ≤ sizeLine + 1; simp only [Array.size_append, List.size_toArray, List.length_nil]; omega))
  refine wpAny_pure ?_
  refine wpAny_bind (wpAny_load (get?_update_seq (Heap.get?_push_size _ rfl) _) ?_)
  show wpAny _ _ (pure ((#[] : Array Value) ++ vs.toArray).toList) Q E _
  rw [show ((#[] : Array Value) ++ vs.toArray).toList = vs by simp]
  exact wpAny_pure k
/-- sorted(x) of a list or a tuple x -/
theorem sorted_seq {β : Type} {l : Addr} {vs : List Value} {bs : List β} {enc : β → PyData} {R : Value → β → Prop} {Q : Value → Shared → Prop} (hl : s.heap.IsList l vs.toArray ∨ s.heap.IsTuple l vs.toArray) (e : EachIs R vs bs) (er : EachIs (fun v b => ∃ as, Reads s.heap v (enc b) as) vs bs)
    (hal : AllAlike (bs.map enc)) (hk : SrtOk (bs.map enc)) (hL : bs.length ≤ sizeLine) (hu : ∀ b, b ∈ bs → A.units + 2 + (enc b).depth < cLine)
    (k : ∀ out, out.length = bs.length → EachIs R out (bs.mergeSort (dataLe false enc)) → Q (.ref (s.heap.objs.size + 1)) { s with heap := sortedAll s.heap vs (List.toArray out) }) : wpAny (model prog w) A (call (.builtin "sorted") [.ref l]) Q E s := by
  have er2 : EachIs (fun v b => ∃ as, Reads (sortingHeap (copyHeap s.heap vs) (s.heap.objs.size + 1) vs) v (enc b) as) vs bs := er.mono fun _ _ ⟨as, r⟩ => ⟨as, PyProof.Rows.Reads.keeps (fun _ _ => sorting_copy_old) r⟩
  have S := sorts_at (prog := prog) (w := w) (A := A.in1.in1) (s := { s with heap := sortingHeap (copyHeap s.heap vs) (s.heap.objs.size + 1) vs }) (each_map (R := fun v d => ∃ as, Reads (sortingHeap (copyHeap s.heap vs) (s.heap.objs.size + 1) vs) v d as) enc er2) hal hk (bound_map hu)
  have hz : vs.length ≤ sizeLine := by rw [e.length]; exact hL
  have fin := k _ (by rw [sortVals_length false rfl]; exact e.length) (sortVals_data false e er2 hal)
  refine call_function_entry kind_sorted plain_sorted entry_sorted (args_sorted1 _) ?_
  unfold Builtin.«sorted»
  refine wpAny_bind (m := checkCount "sorted" 1 1 _) (wpAny_pure ?_)
  have rest : wpAny (model prog w) A.in1 (newList vs >>= fun l' => holding [l'] (call (.builtin "list.sort") [l']) >>= fun _ => ret l') (fun f s' => ∃ v, f = .done (.ret v) ∧ Q v s') E { s with heap := (s.heap.push (seqObj "list" #[] 0)).update s.heap.objs.size (Obj.mapSeq (· ++ vs.toArray)) } := by
    refine wpAny_bind (wpAny_newList ?_ hz)
    have hsz : ((s.heap.push (seqObj "list" #[] 0)).update s.heap.objs.size (Obj.mapSeq (· ++ vs.toArray))).objs.size = s.heap.objs.size + 1 := by
      rw [Heap.size_update, size_push']
    show wpAny _ _ _ _ _ ({ s with heap := copyHeap s.heap vs } : Shared)
    rw [hsz]
    refine wpAny_bind (wpAny_holding (wpAny_call_entry slot_list_sort ⟨_, copyHeap_at s.heap vs, rfl⟩ entry_list_sort ?_ (args_list_sort _)))
    refine wpAny_mono (list_sort_vals (E := fun _ _ => False) (P := fun f s' => f = .done (.ret .none) ∧ Q (.ref (s.heap.objs.size + 1)) s') (s := { s with heap := copyHeap s.heap vs }) (copyHeap_at s.heap vs) S hz ⟨rfl, fin⟩) (fun f s' hf => ?_) fun _ _ z => z.elim
    obtain ⟨rfl, hq⟩ := hf
    exact ⟨_, rfl, wpAny_pure ⟨_, rfl, hq⟩⟩
  rcases hl with hl | hl
  · exact wpAny_bind (collect_list hl rest hz)
  · exact wpAny_bind (tup_copy hl rest hz)
end
end Wk
set_option maxHeartbeats 6400000
/-! sorted(set(xs)), xs a list of different texts. -/
namespace Wk
open PySem PySem.Spec PyProof.Rows L2
/-- the text that an entry bears -/
def txtE (e : Int × Value) : Str := match e.2 with
  | .str z _ => z
  | _ => Str.empty
def TxtE (w : World) (e : Int × Value) : Prop := ∃ z t, e.2 = Value.str z t ∧ e.1 = hashStr w z
/-- the set at a holds just the texts xs; it can be walked -/
def SetT (w : World) (h : Heap) (a : Addr) (xs : List Str) : Prop :=
  ∃ o es ep t, h.get? a = some o ∧ o.ExactSet ∧ o.data = .set es ep t ∧ (∀ e ∈ es.toList, TxtE w e) ∧ (es.toList.map txtE).Perm xs ∧ es.size < scanBound ∧ t.fits es.size = true ∧ Ris t.place.toList ∧
    (w.params.followText "set-order" = true ∨ t.led = true)
section
variable {P : Program} {w : World} {A : Around} {E : Value → Shared → Prop} {s : Shared} {a : Addr} {xs : List Str} {h h2 : Heap}
theorem SetT.keep (R : SetT w h a xs) (k : ∀ o, h.get? a = some o → h2.get? a = some o) : SetT w h2 a xs := by
  obtain ⟨o, es, ep, t, ho, r⟩ := R
  exact ⟨o, es, ep, t, k o ho, r⟩
theorem txt_elems {l : List (Int × Value)} (g : ∀ e ∈ l, TxtE w e) : ElemsOf (PySem.strKind P w) l := fun e he => by
  obtain ⟨z, t, e1, e2⟩ := g e he
  refine ⟨⟨z, ?_, e2⟩, ?_⟩
  · rw [e1]
    exact strKind_is P w z t
  · rw [e1]
    rfl
theorem txt_is {e : Int × Value} (g : TxtE w e) {z : Str} (h : (PySem.strKind P w).is z e.2 = true) : txtE e = z := by
  obtain ⟨y, t, e1, _⟩ := g
  obtain ⟨u, e2⟩ := Value.isStrOf_shape (x := z) (v := e.2) h
  unfold txtE
  rw [e2]
/-- behind the laying of one more -/
theorem setT_end {g : Bool → Sem Unit} (hg : ∀ (b : Bool) (s1 : Shared) (Q1 : Unit → Shared → Prop), Q1 () s1 → wpAny (model P w) A (g b) Q1 E s1) {o : Obj} {es es1 : Array (Int × Value)} {ep : Nat} {t t2 : SetTable} (ho : s.heap.get? a = some o) (hx : o.ExactSet)
    (hd : o.data = .set es ep t) (g1 : ∀ e ∈ es1.toList, TxtE w e) (pm1 : (es1.toList.map txtE).Perm xs) (b1 : es1.size < scanBound) (f2 : t2.fits es1.size = true) (r2 : Ris t2.place.toList) (l2 : w.params.followText "set-order" = true ∨ t2.led = true)
    {was : Bool} {R : Option Bool → Shared → Prop} (k : ∀ h2, Heap.SameBut a s.heap h2 → SetT w h2 a xs → R (some true) { s with heap := h2 }) :
    wpAny (model P w) A (storeSet a es1 t2 >>= fun _ => if (!was && t2.tooFull) = true then (g (relayAll t2 es1 (SetTable.grown es1.size)).2.2 >>= fun _ => storeSet a (relayAll t2 es1 (SetTable.grown es1.size)).1 (relayAll t2 es1 (SetTable.grown es1.size)).2.1 >>= fun _ => pure (some true)) else pure (some true)) R E s := by
  refine wpAny_bind (wpAny_storeSet_of ho hd ?_ (fits_of_scanBound b1))
  have o1 := store_at (es' := es1) (t' := t2) ho hd
  have sb := Heap.SameBut.update s.heap a (Obj.putSet es1 t2)
  by_cases c : (!was && t2.tooFull) = true
  · rw [if_pos c]
    have q1 := relayAll_perm t2 es1 (SetTable.grown es1.size)
    have q2 := relayAll_fits t2 es1 (SetTable.grown es1.size)
    have q3 := relayAll_ris t2 es1 (SetTable.grown es1.size)
    have q4 := relayAll_led t2 es1 (SetTable.grown es1.size)
    generalize relayAll t2 es1 (SetTable.grown es1.size) = Z at q1 q2 q3 q4 ⊢
    obtain ⟨es3, t3, gv⟩ := Z
    dsimp only at q1 q2 q3 q4 ⊢
    have z3 : es3.size = es1.size := by rw [← Array.length_toList, q1.length_eq, Array.length_toList]
    have b3 : es3.size < scanBound := by rw [z3]; exact b1
    refine wpAny_bind (hg _ _ _ (wpAny_bind (wpAny_storeSet_of o1 rfl ?_ (fits_of_scanBound b3))))
    have o2 := store_at (es' := es3) (t' := t3) o1 rfl
    refine wpAny_pure (k _ (sb.trans (Heap.SameBut.update _ a _)) ?_)
    exact ⟨_, es3, _, t3, o2, hx, rfl, fun e he => g1 e (q1.mem_iff.mp he), (q1.map txtE).trans pm1, b3, q2, q3, l2.imp id fun z => by rw [q4]; exact z⟩
  · rw [if_neg c]
    exact wpAny_pure (k _ sb ⟨_, es1, _, t2, o1, hx, rfl, g1, pm1, b1, f2, r2, l2⟩)
/-- one text more, not yet in -/
theorem setT_add {z : Str} {tk : Tok} {Q : Bool → Shared → Prop} (R : SetT w s.heap a xs) (hz : z ∉ xs) (room : xs.length + 1 < scanBound) (k : ∀ h2, Heap.SameBut a s.heap h2 → SetT w h2 a (z :: xs) → Q true { s with heap := h2 }) :
    wpAny (model P w) A (setAddHashed a (.str z tk) ((PySem.strKind P w).hash z)) Q E s := by
  obtain ⟨o, es, ep, t, ho, hx, hd, g, pm0, hb, hf, hr, hl⟩ := R
  have key : (PySem.strKind P w).is z (.str z tk) = true := strKind_is P w z tk
  have scn : (Value.str z tk).scannable = true := rfl
  have hel : ElemsOf (PySem.strKind P w) es.toList := txt_elems g
  unfold setAddHashed setAddHashedIn
  refine wpAny_holding (wpAny_bind (wpAny_setState_of ho hd hf ?_))
  dsimp only
  rw [byScan_of scn hb hel]
  simp only [↓reduceIte]
  unfold setAddByScan
  refine wpAny_bind (wpAny_bind (wpAny_rule (wpAny_bind (wpAny_setScan_of key ho hd hf hel ?_))))
  have none : List.findIdx? (fun e => (PySem.strKind P w).is z e.2) es.toList = none := List.findIdx?_eq_none_iff.mpr fun e he => by
    cases c : (PySem.strKind P w).is z e.2 with
    | false => rfl
    | true => exact absurd (pm0.mem_iff.mp (List.mem_map.mpr ⟨e, he, txt_is (g e he) c⟩)) hz
  rw [none]
  dsimp only
  have gw : ∀ (b : Bool) {s1 : Shared} {Q1 : Unit → Shared → Prop}, Q1 () s1 → wpAny (model P w) A (match b with | true => rule "set.scan.the-table-gave-way" | false => pure ()) Q1 E s1 := fun b s1 Q1 q => by
    cases b with
    | true => exact wpAny_rule q
    | false => exact wpAny_pure q
  have q1 := layNew_perm t es ((PySem.strKind P w).hash z) (.str z tk)
  have q2 := layNew_fits t es ((PySem.strKind P w).hash z) (.str z tk)
  have q3 := layNew_ris t es ((PySem.strKind P w).hash z) (.str z tk) hr
  have q4 := layNew_led t es ((PySem.strKind P w).hash z) (.str z tk)
  generalize layNew t es ((PySem.strKind P w).hash z) (.str z tk) = Z at q1 q2 q3 q4 ⊢
  obtain ⟨es1, t1, was, gv⟩ := Z
  dsimp only at q1 q2 q3 q4 ⊢
  rw [Array.toList_push] at q1
  have pc : es1.toList.Perm (((PySem.strKind P w).hash z, Value.str z tk) :: es.toList) := q1.trans (List.perm_append_singleton _ _)
  have pt : (es1.toList.map txtE).Perm (z :: xs) := (pc.map txtE).trans (pm0.cons z)
  have g1 : ∀ e ∈ es1.toList, TxtE w e := fun e he => by
    rcases List.mem_cons.mp (pc.mem_iff.mp he) with c | c
    · rw [c]
      exact ⟨z, tk, rfl, rfl⟩
    · exact g e c
  have sz : es1.size = xs.length + 1 := by
    have c := pt.length_eq
    rw [List.length_map, Array.length_toList, List.length_cons] at c
    exact c
  have b1 : es1.size < scanBound := by rw [sz]; exact room
  have l1 : w.params.followText "set-order" = true ∨ t1.led = true := hl.imp id fun c => by rw [q4]; exact c
  refine wpAny_bind (gw _ ?_)
  split
  · refine wpAny_bind ?_
    rw [hashByValue_scannable 8 scn]
    refine wpAny_pure ?_
    refine setT_end (xs := z :: xs) ?_ ho hx hd g1 pt b1 ?_ ?_ ?_ ?_
    · intro b s1 Q1 q
      cases b <;> first | exact wpAny_pure q | exact wpAny_rule q
    · first | (split <;> first | exact q2 | exact SetTable.fits_plain_off q2) | exact q2
    · first | (split <;> exact q3) | exact q3
    · first | (split <;> exact l1) | exact l1
    · intro h2 sb r
      dsimp only
      exact wpAny_pure (k h2 sb r)
  · refine wpAny_bind (wpAny_pure ?_)
    simp only [↓reduceIte]
    refine setT_end (xs := z :: xs) ?_ ho hx hd g1 pt b1 q2 q3 l1 ?_
    · intro b s1 Q1 q
      cases b <;> first | exact wpAny_pure q | exact wpAny_rule q
    · intro h2 sb r
      dsimp only
      exact wpAny_pure (k h2 sb r)
theorem setT_zero {h : Heap} {a : Addr} {led : Bool} (e : led = !w.params.followText "set-order") (ho : h.get? a = some { cls := .type "set", dict := none, data := .set #[] 0 (.fresh 0 0 led) }) : SetT w h a [] := by
  refine ⟨_, #[], 0, _, ho, ⟨rfl, rfl, rfl⟩, rfl, fun e he => by simp at he, by simp, by decide, by rfl, List.Pairwise.nil, ?_⟩
  show _ ∨ led = true
  rw [e]
  cases w.params.followText "set-order"
  · exact .inr rfl
  · exact .inl rfl
end
section
variable {P : Program} {w : World} {A : Around} {R : Result → Shared → Prop} {I : Addr} {fp wr : List Addr} {G : Array GenState → Array GenState → Prop} {n : Nat} {Pv : Nat → Value → Prop} {St : Nat → Shared → Prop}
/-- the texts of a walk go into the set, one after another -/
theorem setT_fill (W : WalksS P w A.in1 I fp wr G n Pv St) (S : Addr) (hSf : S ∉ fp) (xs : List Str) (nd : xs.Nodup) (hn : n = xs.length) (hb : xs.length + 1 < scanBound) (hv : ∀ i v, Pv i v → ∃ z t, xs[i]? = some z ∧ v = .str z t) :
    ∀ (k i : Nat) (s : Shared), n - i = k → i ≤ n → St i s → SetT w s.heap S (xs.take i).reverse → (∀ s2, Moved (S :: wr) G s s2 → SetT w s2.heap S xs.reverse → R (.ok (.ret .none)) s2) → codeAny (model P w) A (.builtin "set.update.loop" ⟨[.ref S, .ref I], []⟩) R s := by
  have nw : S ∉ wr := fun c => hSf (W.sub _ c)
  have up : ∀ b ∈ wr, b ∈ S :: wr := fun b c => List.mem_cons_of_mem _ c
  intro k
  induction k with
  | zero =>
    intro i s e1 e2 st sT kR
    obtain rfl : i = n := by omega
    refine codeAny_builtin PyProof.Rows.F.entry_set_update_loop ?_
    rw [Around.under_plainId PyProof.Rows.F.plain_set_update_loop _]
    show wpAny _ A.in1 (pyNext (.ref I) >>= _) _ _ s
    refine wpAny_bind (W.done s _ _ st fun s2 m => ?_)
    show wpAny _ A.in1 (ret Value.none) _ _ s2
    rw [List.take_of_length_le (Nat.le_of_eq hn.symm)] at sT
    exact wpAny_pure (kR s2 (m.mono up) (sT.keep fun o c => m.heap S o nw c))
  | succ k ih =>
    intro i s e1 e2 st sT kR
    have lt : i < n := by omega
    refine codeAny_builtin PyProof.Rows.F.entry_set_update_loop ?_
    rw [Around.under_plainId PyProof.Rows.F.plain_set_update_loop _]
    show wpAny _ A.in1 (pyNext (.ref I) >>= _) _ _ s
    refine wpAny_bind (W.item i s _ _ lt st fun v s2 hP st2 m => ?_)
    obtain ⟨z, t, hz, rfl⟩ := hv i v hP
    have sT2 : SetT w s2.heap S (xs.take i).reverse := sT.keep fun o c => m.heap S o nw c
    have tk : xs.take (i + 1) = xs.take i ++ [z] := by rw [List.take_add_one, hz]; rfl
    have out : z ∉ (xs.take i).reverse := fun c => by
      have c1 : z ∈ xs.take i := List.mem_reverse.mp c
      have c2 : (xs.take (i + 1)).Nodup := nd.sublist (List.take_sublist _ _)
      rw [tk] at c2
      exact (List.nodup_append.mp c2).2.2 z c1 z (by simp) rfl
    show wpAny _ A.in1 (holding [Value.str z t] (setAdd S (.str z t)) >>= _) _ _ s2
    refine wpAny_bind (wpAny_holding ?_)
    unfold setAdd
    refine wpAny_holding (wpAny_bind ((PySem.strKind P w).pyHash (k := z) (strKind_is _ _ _ _) ?_))
    refine setT_add (s := { s2 with toks := s2.toks + 1 }) sT2 out (by rw [List.length_reverse]; have := List.length_take_le i xs; have : (xs.take i).length ≤ xs.length := List.length_take_le' _ _; omega) fun h3 sb sT3 => ?_
    have sT4 : SetT w h3 S (xs.take (i + 1)).reverse := by
      rw [tk, List.reverse_append]
      exact sT3
    refine wpAny_pure ⟨plainId_quiet PyProof.Rows.F.plain_set_update_loop _, ih (i + 1) _ (by omega) lt (W.frame _ s2 _ _ st2 (Nat.le_succ _) fun b c o e => ?_) sT4 fun s5 m5 sT5 => ?_⟩
    · rw [sb.2 b fun d : b = S => hSf (by rw [← d]; exact c)]
      exact e
    · refine kR s5 (Moved.trans W.gtrans ((m.mono up).then_heap (Nat.le_succ _) fun b o c e => ?_) m5) sT5
      rw [sb.2 b fun d : b = S => c (by rw [d]; exact List.mem_cons_self)]
      exact e
end
end Wk
set_option maxHeartbeats 6400000
namespace Wk
open PySem PySem.Spec PyProof.Rows L2
abbrev set0 (w : World) : Obj := { cls := .type "set", dict := none, data := .set #[] 0 (.fresh 0 0 (!w.params.followText "set-order")) }
section
variable {P : Program} {w : World} {A : Around} {E : Value → Shared → Prop} {s : Shared}
theorem strs_txt : ∀ {us : List Value} {xs : List Str}, StrsAre us xs → ∀ (i : Nat) (v : Value), us[i]? = some v → ∃ z t, xs[i]? = some z ∧ v = .str z t
  | _, _, .nil, i, v, h => by simp at h
  | _, _, .cons z t _, 0, v, h => by
    simp at h
    exact ⟨z, t, rfl, h.symm⟩
  | _, _, .cons _ _ r, i + 1, v, h => by
    obtain ⟨z, t, h1, h2⟩ := strs_txt r i v (by simpa using h)
    exact ⟨z, t, by simpa using h1, h2⟩
/-- set(xs), xs a list of different texts -/
theorem set_of_texts {l : Addr} {us : Array Value} {xs : List Str} {Q : Value → Shared → Prop} (hh : A.handled = none) (hl : s.heap.IsList l us) (hi : StrsAre us.toList xs) (nd : xs.Nodup) (hb : xs.length + 1 < scanBound)
    (k : ∀ (h2 : Heap) (tk : Nat), SetT w h2 s.heap.objs.size xs.reverse → (∀ b o, s.heap.get? b = some o → h2.get? b = some o) → Q (.ref s.heap.objs.size) { s with heap := h2, toks := tk }) : wpAny (model P w) A (call (.type "set") [.ref l]) Q E s := by
  have len : us.size = xs.length := by rw [← StrsAre.len_eq hi, Array.length_toList]
  obtain ⟨c, tl, hmro⟩ := PySem.F.called_set.mro
  have hmade := PySem.F.called_set.made
  have hsub := PySem.F.called_set.sub
  refine wpAny_call (codeAny_of_tree ?_)
  show wpAny _ _ (callAny (.type "set") ⟨[.ref l], []⟩) _ _ _
  refine wpAny_pure ⟨Code.quiet_builtin _ (by decide +kernel), codeAny_builtin PySem.F.entry_type_call ?_⟩
  rw [Around.under_plain (weight_type_call_type "set" [.ref l] []) rfl]
  have f1 := PySem.F.called_set.notType
  have f2 := PySem.F.called_set.canCreate
  have f3 := PySem.F.typeCall_set_1 (.ref l)
  repeat (any_goals (first | assumption | wp_step))
  refine codeAny_mono (code_set_led1 (.ref l) (E := E) (Q₁ := fun ob s1 => ob = .ref s.heap.objs.size ∧ s1 = { s with heap := s.heap.push (set0 w) }) ⟨rfl, rfl⟩) fun r s1 hr => ?_
  cases r with
  | error e => exact hr
  | ok fl =>
    cases fl with
    | ret ob =>
      obtain ⟨rfl, rfl⟩ := hr
      have hS : (s.heap.push (set0 w)).get? s.heap.objs.size = some (set0 w) := Heap.get?_push_size _ rfl
      have hT : Shared.TypeIs { s with heap := s.heap.push (set0 w) } (.ref s.heap.objs.size) "set" := ⟨_, hS, rfl⟩
      have g1 := PySem.F.called_set.init.lookup
      have g2 := PySem.F.called_set.init.bind (.ref s.heap.objs.size)
      repeat (any_goals (first | assumption | wp_step))
      refine codeAny_mono (codeAny_call_builtin (R := wants (fun r s2 => r = .none ∧ ∃ h2 tk, s2 = { s with heap := h2, toks := tk } ∧ SetT w h2 s.heap.objs.size xs.reverse ∧ ∀ b o, s.heap.get? b = some o → h2.get? b = some o) E)
        PySem.F.called_set.init.plain PySem.F.entry_set_init (check_set_init_1 hT ?_)) fun r2 s2 hr2 => ?_
      · obtain ⟨⟨c1, d1, x1, l1⟩, o1, e1, n1, y1⟩ := id hl
        dsimp only at e1 y1
        subst e1
        subst y1
        have o2 : (s.heap.push (set0 w)).get? l = some { cls := .type "list", dict := d1, data := .seq us n1, slots := l1 } := Heap.get?_push_of_some _ o1
        have m1 := PySem.F.sub_list_set
        have m2 := PySem.F.sub_list_frozenset
        have m3 : (Value.type "list" == Value.type "dict") = false := by decide
        have li : (s.heap.push (set0 w)).IsList l us := ⟨_, o2, rfl, n1, rfl⟩
        unfold Builtin.«set.__init__» noKeywords Builtin.Frozenset.updateFrom
        generalize hPI : pyIter = PI
        wp_walk
        subst hPI
        refine wpAny_pyIter_list li (wpAny_bind (wpAny_runValue ?_))
        have lS : l < s.heap.objs.size := Heap.lt_size o1
        have h3 : A.in1.in1.in1.handled = none := by simp [hh]
        have zP : (s.heap.push (set0 w)).objs.size = s.heap.objs.size + 1 := Heap.size_push ..
        have nI : l ≠ (s.heap.push (set0 w)).objs.size := by rw [zP]; exact Nat.ne_of_lt (Nat.lt_succ_of_lt lS)
        have nS : s.heap.objs.size ∉ [(s.heap.push (set0 w)).objs.size, l] := by
          rw [zP]
          simp only [List.mem_cons, List.not_mem_nil, or_false, not_or]
          exact ⟨Nat.ne_of_lt (Nat.lt_succ_self _), Nat.ne_of_gt lS⟩
        refine setT_fill ((Walks.list h3 _ l nI us).toS) s.heap.objs.size nS xs nd len hb (fun i v q => strs_txt hi i v (by rw [Array.getElem?_toList]; exact q)) (us.size - 0) 0 _ (by omega) (Nat.zero_le _) ⟨⟨_, Heap.get?_push_size _ rfl, rfl, rfl⟩, li.push _⟩ ?z ?k
        case z => exact setT_zero (led := !w.params.followText "set-order") rfl (Heap.get?_push_of_some _ hS)
        case k =>
          intro s5 m sT
          obtain ⟨h5, g5, d5, t5, os5⟩ := s5
          have eg : g5 = s.gens := m.gens
          have ed : d5 = s.drawn := m.drawn
          have eo : os5 = s.os := m.os
          subst eg
          subst ed
          subst eo
          show wpAny _ _ _ _ _ _
          refine wpAny_pure ?_
          show wpAny _ _ (ret Value.none) _ _ _
          refine wpAny_pure ⟨rfl, h5, t5, rfl, sT, fun b o e => ?_⟩
          have b0 : b < s.heap.objs.size := Heap.lt_size e
          have b1 : b ≠ s.heap.objs.size := Nat.ne_of_lt b0
          have b2 : b ≠ (s.heap.push (set0 w)).objs.size := by rw [zP]; exact Nat.ne_of_lt (Nat.lt_succ_of_lt b0)
          exact m.heap b o (by simp only [List.mem_cons, List.not_mem_nil, or_false, not_or]; exact ⟨b1, b2⟩) (Heap.get?_push_of_some _ (Heap.get?_push_of_some _ e))
      · cases r2 with
        | error e => exact hr2
        | ok fl2 =>
          cases fl2 with
          | ret r =>
            obtain ⟨rfl, h5, t5, rfl, sT, kp⟩ := hr2
            repeat (any_goals (first | assumption | wp_step))
            exact k _ _ sT kp
          | _ => exact hr2.elim
    | _ => exact hr.elim
end
end Wk
set_option maxHeartbeats 4000000
namespace Wk
open PySem PySem.Spec PySem.W PyProof.Rows L2
def dSort (ds : List PyData) : List PyData := ds.mergeSort (dataLe false (id : PyData → PyData))
theorem dLe (a b : PyData) : dataLe false (id : PyData → PyData) a b = !dataLt b a := rfl
theorem dTot : TotalLe (dataLe false (id : PyData → PyData)) := sortLe_total (listOrd itemOrd) false fun b => keyToks b
theorem dSort_perm (ds : List PyData) : (dSort ds).Perm ds := List.mergeSort_perm _ _
theorem dSort_up (ds : List PyData) : (dSort ds).Pairwise (fun a b => dataLt b a = false) := by
  refine (sort_pairwise dTot ds).imp fun {a b} h => ?_
  rw [dLe] at h
  simpa using h
theorem toks_total {a b : PyData} (h1 : dataLt b a = false) (h2 : dataLt a b = false) : keyToks a = keyToks b := (listOrd itemOrd).total _ _ h2 h1
theorem dSort_is {l m : List PyData} (p : m.Perm l) (s : m.Pairwise (fun a b => dataLt b a = false)) (inj : ∀ a ∈ l, ∀ b ∈ l, keyToks a = keyToks b → a = b) : dSort l = m := by
  have pl := dSort_perm l
  refine List.Perm.eq_of_pairwise (le := fun a b => dataLt b a = false) (fun a b ha hb h1 h2 => inj a (pl.mem_iff.mp ha) b (p.mem_iff.mp hb) (toks_total h1 h2)) (dSort_up l) s (pl.trans p.symm)
theorem dSort_uniq {l m : List PyData} (p : l.Perm m) (inj : ∀ a ∈ l, ∀ b ∈ l, keyToks a = keyToks b → a = b) : dSort l = dSort m :=
  dSort_is ((dSort_perm m).trans p.symm) (dSort_up m) inj
theorem toks_str {x y : Str} (h : keyToks (.str x) = keyToks (.str y)) : x = y := by
  have e : x.cps.toList = y.cps.toList := by
    have h' : ([.inr x.cps.toList] : List (Int ⊕ List Nat)) = [.inr y.cps.toList] := h
    injection h' with h1 _
    injection h1
  exact PySem.W.str_of_cps e
section
variable {X : Cx} {K : PySem.W.Frag}
theorem each_dq {pins : List (Addr × Obj)} {σ : L2.St} {H : Hp} {s : Shared} {G : Hp} (I : Inv X pins σ H s) (sG : Same G H) : ∀ {xs : List V} {its : List Value} {ds : List PyData}, Vals xs its → DqAll G xs ds →
    EachIs (fun u (b : V × PyData) => RelV b.1 u ∧ Dq G b.1 b.2) its (xs.zip ds) ∧ EachIs (fun u (b : V × PyData) => ∃ as, Reads s.heap u b.2 as) its (xs.zip ds) ∧ (xs.zip ds).map Prod.snd = ds
  | _, _, _, .nil, .nil => ⟨.nil, .nil, rfl⟩
  | _, _, _, .cons r t, .cons h1 h2 => by
    obtain ⟨a, b, c⟩ := each_dq I sG t h2
    exact ⟨.cons ⟨r, h1⟩ a, .cons (Dp.reads I _ _ _ (Dq.dp _ _ (h1.up sG)) r) b, by
      rw [List.zip_cons_cons, List.map_cons, c]⟩
theorem each_back : ∀ {out : List Value} {bs : List (V × PyData)} {G : Hp}, EachIs (fun u (b : V × PyData) => RelV b.1 u ∧ Dq G b.1 b.2) out bs → Vals (bs.map Prod.fst) out ∧ DqAll G (bs.map Prod.fst) (bs.map Prod.snd)
  | _, _, _, .nil => ⟨.nil, .nil⟩
  | _, _, _, .cons h t => by
    obtain ⟨a, b⟩ := each_back t
    exact ⟨.cons h.1 a, .cons h.2 b⟩
/-- sorted(x): what the data must be -/
def rSrt : List V → Hp → VK → Prop := fun vs H Q => ∃ G v d ds, vs = [v] ∧ Same G H ∧ Dq G v d ∧ seqOf d = some ds ∧ AllAlike ds ∧ SrtOk ds ∧ ds.length ≤ 100000 ∧ (∀ x ∈ ds, x.depth ≤ 60) ∧
  ∀ p ys, H p = none → DqAll G ys (dSort ds) → Q (.ref p) (upd H p (.lst ys))
theorem cr_srt (hu : X.A.units + 64 < cLine) : CallR X (.builtin "sorted") rSrt := by
  intro pins s σ H vs us Q I r h
  obtain ⟨G, v, d, ds, rfl, sG, hv, hd, al, ok, hz, hdep, q⟩ := h
  obtain ⟨u, rfl, ru⟩ := vals1 r
  obtain ⟨a, xs, rfl, hx, hs⟩ := hv.seq hd
  obtain rfl : u = Value.ref a := ru
  have hs2 : ∃ its, Vals xs its ∧ (s.heap.IsList a its.toArray ∨ s.heap.IsTuple a its.toArray) := by
    rcases hs with ⟨_, hs⟩ | ⟨_, hs⟩
    · obtain ⟨its, rv, pl, _⟩ := I.list (.of (sG _ _ hs))
      exact ⟨its, rv, .inl pl.isList⟩
    · obtain ⟨its, rv, pl, _⟩ := I.tuple (.inl (hs.up sG))
      exact ⟨its, rv, .inr pl⟩
  obtain ⟨its, rv, hl⟩ := hs2
  obtain ⟨e1, e2, e3⟩ := each_dq I sG rv hx
  have len : (xs.zip ds).length = ds.length := by
    have := congrArg List.length e3
    simpa using this
  refine sorted_seq (enc := Prod.snd) hl e1 e2 (by rw [e3]; exact al) (by rw [e3]; exact ok) (by rw [len]; exact line _ hz) (fun b hb => ?_) fun out ho eo => ?_
  · have m : b.2 ∈ ds := by
      rw [← e3]
      exact List.mem_map.mpr ⟨b, hb, rfl⟩
    have := hdep _ m
    omega
  · obtain ⟨b1, b2⟩ := each_back eo
    have sm : (((xs.zip ds).mergeSort (dataLe false Prod.snd)).map Prod.snd) = dSort ds := by
      refine (sort_maps (r := dataLe false (Prod.snd : V × PyData → PyData)) (s := dataLe false (id : PyData → PyData)) Prod.snd (fun a _ b _ => rfl)).trans ?_
      rw [e3]
      rfl
    rw [sm] at b2
    obtain ⟨n, hn⟩ := sortedAll_at s.heap its out.toArray
    have hf : H (s.heap.objs.size + 1) = none := I.hok.fresh (Nat.le_succ _)
    refine ⟨.ref (s.heap.objs.size + 1), upd H (s.heap.objs.size + 1) (.lst _), I.laid (t' := s.toks) (fun _ _ e => sortedAll_old e) (Nat.le_succ _) ⟨?_, out, n, b1, hn⟩, rfl, q _ _ hf b2⟩
    rw [List.length_map, List.length_mergeSort, len]
    exact line _ hz
variable {a : Expr} {σ : St} {G : Hp} {d : PyData} {ds : List PyData} {p pos : Pos}
theorem ed_sorted (hu : X.A.units + 64 < cLine) (hd : seqOf d = some ds) (al : AllAlike ds) (ok : SrtOk ds) (hz : ds.length ≤ 100000) (hdep : ∀ x ∈ ds, x.depth ≤ 60) (hm : X.mg "sorted" = none) (ha : ED X a σ G d) (hg : Gl X "sorted" := by rfl) (he : starEach [a] X.env = (false, eval a X.env) :: starEach [] X.env := by rfl) :
    ED X (.Call (.Name "sorted" p) [a] [] pos) σ G (.list (dSort ds)) :=
  ed_cb (cr_srt hu) (by decide +kernel) (fun G H vs Q s ps q => by
    obtain ⟨v, rfl, h⟩ := ps.one
    exact ⟨G, v, d, ds, rfl, s, h, hd, al, ok, hz, hdep, fun r ys hr hy => q _ _ _ (Ext.new s hr) (.lst upd_same (hy.up (Same.laid (s.free hr))))⟩) hm (eds_cons ha eds_nil he) hg (by decide) (by decide) he
end
/-! ### texts in order -/
def leS (a b : Str) : Bool := decide (a.cps.toList ≤ b.cps.toList)
def sSort (xs : List Str) : List Str := xs.mergeSort leS
theorem dSort_strs (xs : List Str) : dSort (xs.map .str) = (sSort xs).map .str := by
  unfold dSort sSort
  refine (sort_maps (r := leS) (s := dataLe false (id : PyData → PyData)) PyData.str fun a _ b _ => ?_).symm
  have := congrFun (congrFun (dataLe_str (id : Str → Str)) a) b
  exact this.symm
theorem sSort_perm (xs : List Str) : (sSort xs).Perm xs := List.mergeSort_perm _ _
theorem alike_strs (xs : List Str) : AllAlike (xs.map PyData.str) := AllAlike.of fun _ _ => rfl
theorem ok_strs (xs : List Str) : SrtOk (xs.map PyData.str) := .inl (Sortable.others fun b => ⟨fun h => (by cases h), fun xs h => (by cases h)⟩)
theorem depth_strs (xs : List Str) : ∀ x ∈ xs.map PyData.str, x.depth ≤ 60 := fun x hx => by
  obtain ⟨z, _, rfl⟩ := List.mem_map.mp hx
  simp [PyData.depth]
theorem strs_inj (xs : List Str) : ∀ a ∈ xs.map PyData.str, ∀ b ∈ xs.map PyData.str, keyToks a = keyToks b → a = b := fun a ha b hb h => by
  obtain ⟨x, _, rfl⟩ := List.mem_map.mp ha
  obtain ⟨y, _, rfl⟩ := List.mem_map.mp hb
  rw [toks_str h]
theorem map_str_inj {xs ys : List Str} (h : xs.map PyData.str = ys.map PyData.str) : xs = ys := by
  exact List.map_inj_right (fun a b h => by injection h) |>.mp h
theorem sSort_uniq {xs ys : List Str} (p : xs.Perm ys) : sSort xs = sSort ys := by
  have h := dSort_uniq (p.map PyData.str) (strs_inj xs)
  rw [dSort_strs, dSort_strs] at h
  exact map_str_inj h
section
variable {X : Cx} {a : Expr} {σ : St} {G : Hp} {d : PyData} {ds : List PyData} {p pos p2 pos2 : Pos}
theorem ed_sortS {xs : List Str} (hu : X.A.units + 64 < cLine) (hd : seqOf d = some (xs.map .str)) (hz : xs.length ≤ 100000) (hm : X.mg "sorted" = none) (ha : ED X a σ G d) (hg : Gl X "sorted" := by rfl) (he : starEach [a] X.env = (false, eval a X.env) :: starEach [] X.env := by rfl) :
    ED X (.Call (.Name "sorted" p) [a] [] pos) σ G (.list ((sSort xs).map .str)) := by
  rw [← dSort_strs]
  exact ed_sorted hu hd (alike_strs xs) (ok_strs xs) (by simpa using hz) (depth_strs xs) hm ha hg he
end
end Wk
set_option maxHeartbeats 4000000
namespace Wk
open PySem PySem.Spec PySem.W PySem.Calls PyProof.Rows L2
section
variable {P : Program} {w : World} {A : Around} {E : Value → Shared → Prop} {s : Shared}
theorem texts_of (w : World) : ∀ (l : List (Int × Value)), (∀ e ∈ l, TxtE w e) → EachIs (fun (v : Value) (z : Str) => ∃ t, v = .str z t) (l.map (·.2)) (l.map txtE)
  | [], _ => .nil
  | e :: l, g => by
    obtain ⟨z, t, e1, _⟩ := g e List.mem_cons_self
    refine .cons ⟨t, ?_⟩ (texts_of w l fun e h => g e (List.mem_cons_of_mem _ h))
    show e.2 = _
    unfold txtE
    rw [e1]
/-- texts in another order: the values' own texts -/
theorem texts_perm {vs us : List Value} (p : vs.Perm us) : ∀ {ks : List Str}, EachIs (fun (v : Value) (z : Str) => ∃ t, v = .str z t) us ks → ∃ js, js.Perm ks ∧ EachIs (fun (v : Value) (z : Str) => ∃ t, v = .str z t) vs js := by
  induction p with
  | nil => intro ks h; exact ⟨ks, .refl _, h⟩
  | cons x p ih =>
    intro ks h
    cases h with
    | cons h1 h2 =>
      obtain ⟨js, a, b⟩ := ih h2
      exact ⟨_ :: js, a.cons _, .cons h1 b⟩
  | swap x y l =>
    intro ks h
    cases h with
    | cons h1 h2 =>
      cases h2 with
      | cons h2 h3 => exact ⟨_, .swap _ _ _, .cons h2 (.cons h1 h3)⟩
  | trans p q ih1 ih2 =>
    intro ks h
    obtain ⟨js, a, b⟩ := ih2 h
    obtain ⟨is, c, d⟩ := ih1 b
    exact ⟨is, c.trans a, d⟩
theorem vals_texts : ∀ {vs : List Value} {ks : List Str}, EachIs (fun (v : Value) (z : Str) => ∃ t, v = .str z t) vs ks → Vals (ks.map V.str) vs
  | _, _, .nil => .nil
  | _, _, .cons h t => .cons h (vals_texts t)
/-- sorted(x), x a set of texts -/
theorem sorted_texts {a : Addr} {xs : List Str} {Q : Value → Shared → Prop} (R : SetT w s.heap a xs) (hh : A.handled = none) (hz : xs.length ≤ 1000) (hu : A.units + 64 < cLine)
    (k : ∀ s2 p (out : List Value) (c : Nat), (∀ b o, s.heap.get? b = some o → s2.heap.get? b = some o) → s2.gens = s.gens → s2.os = s.os → s.heap.objs.size ≤ p → s2.heap.get? p = some (seqObj "list" out.toArray c) → Vals ((sSort xs).map V.str) out → Q (.ref p) s2) :
    wpAny (model P w) A (call (.builtin "sorted") [.ref a]) Q E s := by
  obtain ⟨o, es, ep, t, ho, hx, hd, g, pm, hb, hf, hr, hl⟩ := R
  refine call_function_entry kind_sorted plain_sorted entry_sorted (args_sorted1 _) ?_
  unfold Builtin.«sorted»
  refine wpAny_bind (m := checkCount "sorted" 1 1 _) (wpAny_pure ?_)
  refine wpAny_bind (collect_set (A := A.in1) hh ⟨o, ho, hx.1, hd⟩ hf hb hr hl fun s1 vs k1 z1 g1 o1 p1 => ?_)
  obtain ⟨js, q1, e1⟩ := texts_perm p1 (texts_of w es.toList g)
  have q2 : js.Perm xs := q1.trans pm
  have lv : vs.length ≤ sizeLine := by
    rw [e1.length, q2.length_eq]
    exact line _ (by omega)
  refine wpAny_bind (wpAny_newList ?_ lv)
  have oL : (s1.heap.push (seqObj "list" vs.toArray 0)).get? s1.heap.objs.size = some (seqObj "list" vs.toArray 0) := Heap.get?_push_size _ rfl
  have er : ∀ h : Heap, EachIs (fun v z => ∃ as, Reads h v (PyData.str z) as) vs js := fun h => e1.mono fun v z ⟨t, q⟩ => by
    subst q
    exact ⟨[], .str z t⟩
  have S := SortsAt.data (prog := P) (w := w) (A := A.in1.in1) (s := { s1 with heap := sortingHeap (s1.heap.push (seqObj "list" vs.toArray 0)) s1.heap.objs.size vs }) (each_map (R := fun v d => ∃ as, Reads (sortingHeap (s1.heap.push (seqObj "list" vs.toArray 0)) s1.heap.objs.size vs) v d as) PyData.str (er _)) (alike_strs js)
    (Sortable.others fun b => ⟨fun h => (by cases h), fun xs h => (by cases h)⟩) (fun d hd => by
      obtain ⟨z, _, rfl⟩ := List.mem_map.mp hd
      show A.units + 1 + 1 + _ < _
      simp only [PyData.depth]
      omega)
  have fin := sortVals_data (h' := sortingHeap (s1.heap.push (seqObj "list" vs.toArray 0)) s1.heap.objs.size vs) false e1 (er _) (alike_strs js)
  have same : js.mergeSort (dataLe false PyData.str) = sSort xs := by
    have h1 : js.mergeSort (dataLe false PyData.str) = sSort js := by
      unfold sSort
      congr 1
      exact dataLe_str (id : Str → Str)
    rw [h1]
    exact sSort_uniq q2
  rw [same] at fin
  refine wpAny_bind (wpAny_holding (wpAny_call_entry slot_list_sort ⟨_, oL, rfl⟩ entry_list_sort ?_ (args_list_sort _)))
  refine wpAny_mono (list_sort_vals (E := fun _ _ => False) (P := fun f s' => f = .done (.ret .none) ∧ Q (.ref s1.heap.objs.size) s') (s := { s1 with heap := s1.heap.push (seqObj "list" vs.toArray 0) }) oL S lv ⟨rfl, ?_⟩) (fun f s' hf => ?_) fun _ _ z => z.elim
  · obtain ⟨c, hc⟩ := sortedHeap_at (out := (sortVals _ false vs vs).toArray) oL
    refine k _ _ _ _ (fun b o e => ?_) g1 o1 z1 hc (vals_texts fin)
    have lt := Heap.lt_size (k1 _ _ e)
    rw [sortedHeap_old (Nat.ne_of_lt lt) (by rw [size_push']; exact Nat.lt_succ_of_lt lt)]
    exact Heap.get?_push_of_some _ (k1 _ _ e)
  · obtain ⟨rfl, hq⟩ := hf
    exact ⟨_, rfl, wpAny_pure ⟨_, rfl, hq⟩⟩
end
section
variable {X : Cx} {a : Expr} {σ : L2.St} {G : Hp} {d : PyData} {p pos p2 pos2 : Pos}
theorem strsAre_of : ∀ {xs : List Str} {its : List Value}, Vals (xs.map V.str) its → StrsAre its xs
  | [], _, r => by
    cases r
    exact .nil
  | z :: xs, _, r => by
    cases r with
    | cons r1 r2 =>
      obtain ⟨t, rfl⟩ := r1
      exact .cons z t (strsAre_of r2)
/-- sorted(set(x)), x a list of different texts -/
theorem ed_sortset {xs : List Str} (hc : X.calm = true) (hu : X.A.units + 64 < cLine) (nd : xs.Nodup) (hz : xs.length ≤ 1000) (hm : X.mg "sorted" = none) (hm2 : X.mg "set" = none) (ha : ED X a σ G (.list (xs.map .str))) (hg : Gl X "sorted" := by rfl) (hg2 : Gl X "set" := by rfl)
    (na : starEach [a] X.env = (false, eval a X.env) :: starEach [] X.env := by rfl) : ED X (.Call (.Name "sorted" p) [.Call (.Name "set" p2) [a] [] pos2] [] pos) σ G (.list ((sSort xs).map .str)) := by
  intro H sG Q q
  refine ⟨fun pins s I => ?_⟩
  refine Call_ (ld_blt I hg hm boot_sorted ?_)
  refine PyProof.Rows.callWith_builtin1 (PyProof.Rows.args_cons ?_ rfl) rfl rfl
  refine Call_ (ld_blt I hg2 hm2 boot_set ?_)
  refine PyProof.Rows.callWith_type1 (PyProof.Rows.args_cons (thn ((ha H sG _ (fun v G2 H2 y p => (⟨G2, y, p⟩ : ∃ G2, Ext G H G2 H2 ∧ Dq G2 v (.list (xs.map .str))))).run pins s I) fun v s1 ⟨x, H1, I1, r1, G1, y, p⟩ => PyProof.Rows.args_nil ?_) na) na rfl
  cases p with
  | @lst r us _ h1 h2 =>
    cases DqAll.of_strs h2
    cases r1
    obtain ⟨its, rv, pl, hz'⟩ := I1.list (.of (y.gh _ _ h1))
    have hlen : its.length = xs.length := by rw [← rv.length, List.length_map]
    refine set_of_texts (I1.ok.hd hc) pl.isList (by simpa using strsAre_of rv) nd (by unfold scanBound; omega) ?_
    intro h2 tk hS kp
    refine PyProof.Rows.args_nil ?_
    have I2 : Inv X pins σ H1 { s1 with heap := h2, toks := tk } := I1.kept (t' := tk) kp
    refine sorted_texts hS (I1.ok.hd hc) (by simpa using hz) hu fun s' pp out c k g o hp hgt hv => ?_
    rw [sSort_uniq (List.reverse_perm xs)] at hv
    have hp2 : s1.heap.objs.size ≤ pp := by
      obtain ⟨o, _, _, _, ho, _⟩ := hS
      exact Nat.le_of_lt (Nat.lt_of_lt_of_le (Heap.lt_size ho) hp)
    have hn : H1 pp = none := I2.hok.fresh hp
    have hl : ((sSort xs).map V.str).length ≤ sizeLine := by
      rw [List.length_map, (sSort_perm xs).length_eq]
      exact line _ (by omega)
    have J : Inv X pins σ (upd H1 pp (.lst ((sSort xs).map V.str))) { s1 with heap := s'.heap, gens := s'.gens, drawn := s'.drawn, toks := s'.toks } :=
      I1.call (ch := []) (Un.laid (fun b o e => k b o (kp b o e)) hp2 hn) (I1.hok.laid (fun b o e => k b o (kp b o e)) hp2 ⟨hl, out, c, hv, hgt⟩) (by rw [g]; exact I1.bare) (fun _ z => nomatch z)
    have e : s' = { s1 with heap := s'.heap, gens := s'.gens, drawn := s'.drawn, toks := s'.toks } := by
      cases s'
      cases s1
      cases o
      rfl
    rw [e]
    exact ⟨.ref pp, _, J, rfl, q _ _ _ (y.trans (Ext.new y.gh hn)) (.lst upd_same (DqAll.strs _))⟩
end
end Wk
set_option maxHeartbeats 4000000
/-! Dicts from names to data. -/
namespace Wk
open PySem PySem.Spec PyProof.Rows L2
def pget (t : List (Str × PyData)) (k : Str) : Option PyData := (t.find? fun p => decide (p.1 = k)).map (·.2)
theorem pget_hit (k : Str) (d : PyData) (t : List (Str × PyData)) : pget ((k, d) :: t) k = some d := by simp [pget, List.find?_cons]
theorem pget_miss {k x : Str} {d : PyData} {t : List (Str × PyData)} (h : ¬ x = k) : pget ((x, d) :: t) k = pget t k := by simp [pget, List.find?_cons, h]
theorem pget_none : ∀ {t : List (Str × PyData)} {k : Str}, k ∉ t.map (·.1) → pget t k = none
  | [], _, _ => rfl
  | (x, d) :: t, k, h => by
    rw [List.map_cons, List.mem_cons, not_or] at h
    rw [pget_miss (fun e => h.1 e.symm)]
    exact pget_none h.2
theorem pget_some : ∀ {t : List (Str × PyData)} {k : Str}, k ∈ t.map (·.1) → ∃ d, pget t k = some d
  | [], _, h => nomatch h
  | (x, d) :: t, k, h => by
    by_cases e : x = k
    · subst e
      exact ⟨d, pget_hit _ _ _⟩
    · rw [pget_miss e]
      rw [List.map_cons, List.mem_cons] at h
      rcases h with h | h
      · exact absurd h.symm e
      · exact pget_some h
/-- the dict's rows: names, each with its datum -/
inductive TKv (G : Hp) : List (Key × V) → List (Str × PyData) → Prop
  | nil : TKv G [] []
  | cons {x : Str} {v : V} {d : PyData} {kvs : List (Key × V)} {t : List (Str × PyData)} : Dq G v d → TKv G kvs t → TKv G ((.inr x, v) :: kvs) ((x, d) :: t)
theorem TKv.up {G G2 : Hp} (s : Same G G2) : ∀ {kvs : List (Key × V)} {t : List (Str × PyData)}, TKv G kvs t → TKv G2 kvs t
  | _, _, .nil => .nil
  | _, _, .cons h r => .cons (h.up s) (TKv.up s r)
theorem TKv.length {G : Hp} : ∀ {kvs : List (Key × V)} {t : List (Str × PyData)}, TKv G kvs t → kvs.length = t.length
  | _, _, .nil => rfl
  | _, _, .cons _ r => by rw [List.length_cons, List.length_cons, TKv.length r]
theorem TKv.get {G : Hp} {k : Str} : ∀ {kvs : List (Key × V)} {t : List (Str × PyData)}, TKv G kvs t → ∀ {d : PyData}, pget t k = some d → ∃ v, valV kvs (.inr k) = some v ∧ Dq G v d
  | _, _, .nil, _, e => by cases e
  | _, _, .cons (x := x) h r, d, e => by
    by_cases z : x = k
    · subst z
      rw [pget_hit] at e
      cases e
      exact ⟨_, valV_pos rfl, h⟩
    · rw [pget_miss z] at e
      obtain ⟨v, a, b⟩ := TKv.get r e
      exact ⟨v, by rw [valV_neg (fun q => z (by injection q))]; exact a, b⟩
theorem TKv.none {G : Hp} {k : Str} : ∀ {kvs : List (Key × V)} {t : List (Str × PyData)}, TKv G kvs t → pget t k = .none → valV kvs (.inr k) = .none
  | _, _, .nil, _ => rfl
  | _, _, .cons (x := x) h r, e => by
    by_cases z : x = k
    · subst z
      rw [pget_hit] at e
      cases e
    · rw [pget_miss z] at e
      rw [valV_neg (fun q => z (by injection q))]
      exact TKv.none r e
theorem TKv.snoc {G : Hp} {x : Str} {v : V} {d : PyData} (h : Dq G v d) : ∀ {kvs : List (Key × V)} {t : List (Str × PyData)}, TKv G kvs t → TKv G (kvs ++ [(.inr x, v)]) (t ++ [(x, d)])
  | _, _, .nil => .cons h .nil
  | _, _, .cons h1 r => .cons h1 (TKv.snoc h r)
theorem TKv.put {G : Hp} {x : Str} {v : V} {d : PyData} {kvs : List (Key × V)} {t : List (Str × PyData)} (r : TKv G kvs t) (n : x ∉ t.map (·.1)) (h : Dq G v d) : TKv G (putK kvs (.inr x) v) (t ++ [(x, d)]) := by
  have e : putK kvs (.inr x) v = kvs ++ [(.inr x, v)] := by
    unfold putK
    rw [valV_any, r.none (pget_none n)]
    rfl
  rw [e]
  exact r.snoc h
/-- v is a dict with the rows t -/
def Tab (t : List (Str × PyData)) (G : Hp) (v : V) : Prop := ∃ a kvs, v = .ref a ∧ G a = some (.dK kvs) ∧ TKv G kvs t
theorem Tab.up {G G2 : Hp} {t : List (Str × PyData)} {v : V} (h : Tab t G v) (s : Same G G2) : Tab t G2 v := by
  obtain ⟨a, kvs, e, h1, h2⟩ := h
  exact ⟨a, kvs, e, s _ _ h1, h2.up s⟩
/-- what an expression is worth, of any kind of worth -/
def EV (X : Cx) (e : Expr) (σ : St) (G : Hp) (R : Hp → V → Prop) : Prop := ∀ H, Same G H → ∀ Q : VK, (∀ v G2 H2, Ext G H G2 H2 → R G2 v → Q v H2) → WE X e σ H Q
def Ups (R : Hp → V → Prop) : Prop := ∀ G G2 v, Same G G2 → R G v → R G2 v
theorem ups_tab (t : List (Str × PyData)) : Ups (Tab t) := fun G G2 v s h => h.up s
section
variable {X : Cx} {e a b c : Expr} {es : List Expr} {σ : St} {G G1 H : Hp} {d da db dc : PyData} {ds : List PyData} {pos p p2 p3 p4 : Pos} {tg iter kx vx : Expr} {ifs : List Expr} {scope : Scope} {R : Hp → V → Prop} {t : List (Str × PyData)}
theorem EV.up (u : Ups R) (h : EV X e σ G R) (s : Same G G1) : EV X e σ G1 R := fun H s1 Q q => h H (s.trans s1) Q fun v G2 H2 x r => q v _ _ (x.widen s s1) (u _ _ _ (un_right (s1.trans x.hh) x.gh) r)
theorem ev_var (i : Nat) {x : Str} {v : V} (hs : σ[i]? = some (some v)) (h : R G v) (hN : X.N[i]? = some x := by rfl)
    (hv : Vis X.env.scope x := by first | exact Or.inl rfl | exact Or.inr (Or.inl rfl) | exact Or.inr (Or.inr rfl)) (hd : (x == ("__debug__" : Str)) = false := by decide)
    (hcd : (x == ("__classdict__" : Str)) = false := by decide) : EV X (.Name x pos) σ G R := fun H s Q q =>
  we (pe_var hN hv hd hcd) ⟨v, hs, q v G H (Ext.refl s) h⟩
/-- table[k] -/
theorem ed_dget {k : Str} (hu : X.A.units + 1 < cLine) (ha : EV X a σ G (Tab t)) (hb : ED X b σ G (.str k)) (hk : pget t k = some d) (hs : NoSl b := by exact fun _ _ => rfl) : ED X (.Subscript a b pos) σ G d := fun H s Q q =>
  we (pe_dget hu pe pe hs) (ha H s _ fun v G2 H2 y r => hb.up y.gg H2 y.gh _ fun w G3 H3 y2 p2 => by
    cases p2
    obtain ⟨l, kvs, rfl, h1, h2⟩ := r.up y2.gg
    obtain ⟨u, e1, e2⟩ := h2.get hk
    refine ⟨l, u, rfl, ?_, (q.ext (y.trans y2)).now y2.gh e2⟩
    rw [← e1]
    exact DGet.k (k := .inr k) (y2.gh _ _ h1))
/-- k in table -/
theorem et_din {k : Str} (hu : X.A.units + 1 < cLine) (ha : ED X a σ G (.str k)) (hb : EV X b σ G (Tab t)) (hm : behindInMarks .In b = false := by rfl) : ET X (.Compare a [.In] [b] pos) σ G (pget t k).isSome := fun H s Q q =>
  wt (pt_cmp (pc_din hu pe pe) hm) (ha H s _ fun v G2 H2 y p => (hb.up (ups_tab t) y.gg) H2 y.gh _ fun w G3 H3 y2 r => by
    cases p
    obtain ⟨l, kvs, rfl, h1, h2⟩ := r
    refine ⟨l, _, rfl, DGet.k (k := .inr k) (y2.gh _ _ h1), ?_⟩
    have e : (valV kvs (Sum.inr k)).isSome = (pget t k).isSome := by
      cases z : pget t k with
      | none =>
        rw [h2.none z]
        rfl
      | some d =>
        obtain ⟨u, e1, _⟩ := h2.get z
        rw [e1]
        rfl
    rw [e]
    exact ⟨_, rfl, q G3 H3 (y.trans y2)⟩)
/-- {k: v for tg in iter}, the names different -/
theorem ev_dc {α : Type} (xs : List α) (enc : α → PyData) (kf : α → Str) (g : α → PyData) (P : α → Hp → St → Prop) (own : List (Str × Nat)) (hz : xs.length ≤ 100000) (nd : (xs.map kf).Nodup) (hc : X.calm = true) (hN : X.N.Nodup) (ok : BlkOk X.N X.env.scope scope own) (hi : EI X tg iter σ G (xs.map enc))
    (hb : ∀ x ∈ xs, ∀ G3, Same G G3 → InB X scope fun Y => Bnd Y tg (wipe σ (own.map (·.2))) G3 (enc x) (P x G3)) (hw : ∀ x ∈ xs, ∀ G3 σ2, P x G3 σ2 → wipe σ2 (own.map (·.2)) = wipe σ (own.map (·.2)))
    (hk : ∀ x ∈ xs, ∀ G3, Same G G3 → ∀ σ2, P x G3 σ2 → InB X scope fun Y => ED Y kx σ2 G3 (.str (kf x)))
    (he : ∀ x ∈ xs, ∀ G3, Same G G3 → ∀ σ2, P x G3 σ2 → InB X scope fun Y => ED Y vx σ2 G3 (g x)) (hs : ∀ x, foldedSetIterable iter X.env x = pure x := by intro _; rfl) :
    EV X (.DictComp kx vx [⟨tg, iter, [], 0⟩] scope pos) σ G (Tab (xs.map fun x => (kf x, g x))) := fun H s Q q =>
  we (pe_dc (wi := WI X tg iter) (g := bG X scope tg) (tt := bT X scope []) (tk := bE X scope kx) (tv := bE X scope vx) hc hN pi ok bGp bTp bEp bEp hs) (by
    refine hi H s _ fun J G1 H1 y0 gv D hD => ?_
    have g1D : G1 D = none := y0.gh.free hD
    refine ⟨fun i m H' => m = xs.length - i ∧ i ≤ xs.length ∧ ∃ Gi acc, Ext G1 H1 Gi H' ∧ Gi D = none ∧ H' D = some (.dK acc) ∧ TKv Gi acc ((xs.take i).map fun x => (kf x, g x)), ⟨_, rfl, Nat.zero_le _, G1, [], ⟨Same.refl _, Same.laid hD, y0.gh.mut g1D, fun _ _ h => h⟩, g1D, upd_same, .nil⟩, ?_⟩
    rintro i m H' ⟨rfl, hi', Gi, acc, yi, gD, hDi, hA⟩
    have hl : (xs.map enc).length = xs.length := List.length_map _
    by_cases hlt : i < xs.length
    · refine .inr ⟨gv.go i Gi H' yi.gg yi.gh (by rw [hl]; exact hlt), fun H7 => ∃ Gn acc, Ext G1 H1 Gn H7 ∧ Gn D = none ∧ H7 D = some (.dK acc) ∧ TKv Gn acc ((xs.take (i + 1)).map fun x => (kf x, g x)), ?_, fun v H3 hy => ?_⟩
      · rintro H7 ⟨Gn, acc', a, b, c, d⟩
        exact ⟨xs.length - (i + 1), by omega, rfl, hlt, Gn, acc', a, b, c, d⟩
      · obtain ⟨d, G4, hd, y4, pd⟩ := gv.yld i Gi H' v H3 yi.gg yi.gh (by rw [hl]; exact hlt) hy
        obtain ⟨x, hx, rfl⟩ : ∃ x, xs[i]? = some x ∧ enc x = d := by
          rw [List.getElem?_map] at hd
          cases e : xs[i]? with
          | none => rw [e] at hd; cases hd
          | some x => rw [e] at hd; exact ⟨x, rfl, Option.some.inj hd⟩
        have hm : x ∈ xs := List.mem_of_getElem? hx
        have sG : Same G G4 := (y0.gg.trans yi.gg).trans y4.gg
        have nD : H' D ≠ none := by rw [hDi]; exact fun z => by cases z
        have g4D : G4 D = none := y4.out D nD gD
        have h3D : H3 D = some (.dK acc) := y4.hh _ _ hDi
        have tk : (xs.take (i + 1)).map (fun x => (kf x, g x)) = (xs.take i).map (fun x => (kf x, g x)) ++ [(kf x, g x)] := by
          rw [take_succ hx, List.map_append]
          rfl
        have new : kf x ∉ ((xs.take i).map fun x => (kf x, g x)).map (·.1) := by
          rw [List.map_map]
          intro hq
          obtain ⟨y, hy, ey⟩ := List.mem_map.mp hq
          have hsp : xs.map kf = (xs.take i).map kf ++ (kf x :: (xs.drop (i + 1)).map kf) := by
            conv => lhs; rw [← List.take_append_drop i xs, List.drop_eq_getElem_cons hlt]
            rw [List.map_append, List.map_cons]
            have : xs[i] = x := by
              have := List.getElem?_eq_getElem hlt
              rw [hx] at this
              exact (Option.some.inj this).symm
            rw [this]
          rw [hsp] at nd
          have dj := (List.nodup_append.mp nd).2.2
          exact dj (kf x) (List.mem_map.mpr ⟨y, hy, ey⟩) (kf x) List.mem_cons_self rfl
        intro s0 H0 C cl fp
        refine hb x hm G4 sG s0 H0 C cl fp H3 v y4.gh pd _ fun σ2 hP => ⟨hw x hm G4 σ2 hP, ?_⟩
        intro s0 H0 C cl fp
        refine wts pts_nil ?_
        simp only [↓reduceIte]
        intro s0 H0 C cl fp
        have n3 : H3 D ≠ none := by rw [h3D]; exact fun z => by cases z
        refine hk x hm G4 sG σ2 hP s0 H0 C cl fp H3 y4.gh _ fun u G5 H5 y5 pu => ?_
        have g5D : G5 D = none := y5.out D n3 g4D
        have h5D : H5 D = some (.dK acc) := y5.hh _ _ h3D
        have n5 : H5 D ≠ none := by rw [h5D]; exact fun z => by cases z
        intro s0 H0 C cl fp
        refine (he x hm G4 sG σ2 hP s0 H0 C cl fp).up y5.gg H5 y5.gh _ fun w G6 H6 y6 pw => ?_
        have g6D : G6 D = none := y6.out D n5 g5D
        have h6D : H6 D = some (.dK acc) := y6.hh _ _ h5D
        have yy := ((yi.trans y4).trans y5).trans y6
        cases pu
        refine ⟨acc, .inr (kf x), rfl, h6D, ?_, G6, _, ⟨yy.gg, yy.hh.mut hD, yy.gh.mut g6D, yy.out⟩, g6D, upd_same, ?_⟩
        · rw [hA.length, List.length_map]
          have l2 : (xs.take i).length ≤ xs.length := List.length_take_le' _ _
          exact Nat.lt_of_le_of_lt (Nat.le_trans l2 hz) (by decide)
        · rw [tk]
          exact (hA.up ((y4.gg.trans y5.gg).trans y6.gg)).put new pw
    · have e : i = xs.length := by omega
      subst e
      rw [List.take_length] at hA
      refine .inl ⟨gv.stop _ Gi H' yi.gg yi.gh (by rw [hl]; exact Nat.le_refl _), q _ (upd Gi D (.dK acc)) H' (y0.trans ⟨yi.gg.trans (Same.laid gD), yi.hh, fun b o hb => ?_, fun b h1 h2 => ?_⟩) ⟨D, acc, rfl, upd_same, hA.up (Same.laid gD)⟩⟩
      · by_cases z : b = D
        · subst z
          rw [upd_same] at hb
          cases hb
          exact hDi
        · rw [upd_ne z] at hb
          exact yi.gh b o hb
      · have z : b ≠ D := fun z => h1 (by rw [z]; exact hD)
        rw [upd_ne z]
        exact yi.out b h1 h2)
end
end Wk
set_option maxHeartbeats 4000000
/-! Tuples with no dict of their own; dict(tuple of pairs); the items of a dict. -/
namespace Wk
open PySem PySem.Spec PyProof.Rows L2
/-- a tuple that is known to have no dict -/
def FrT (ds : List PyData) (G : Hp) (v : V) : Prop := ∃ a o xs, v = .ref a ∧ G a = some (.frz o (.tup xs)) ∧ o.dict = none ∧ DqAll G xs ds
theorem FrT.up {G G2 : Hp} {ds : List PyData} {v : V} (h : FrT ds G v) (s : Same G G2) : FrT ds G2 v := by
  obtain ⟨a, o, xs, e, h1, h2, h3⟩ := h
  exact ⟨a, o, xs, e, s _ _ h1, h2, h3.up s⟩
theorem FrT.dq {G : Hp} {ds : List PyData} {v : V} (h : FrT ds G v) : Dq G v (.tuple ds) := by
  obtain ⟨a, o, xs, rfl, h1, h2, h3⟩ := h
  exact .tupR (.inr ⟨o, h1⟩) h3
theorem ups_frt (ds : List PyData) : Ups (FrT ds) := fun G G2 v s h => h.up s
def rowD (e : Str × PyData) : PyData := .tuple [.str e.1, e.2]
section
variable {X : Cx}
/-- tuple(list): the new tuple has no dict -/
theorem cr_tupF : CallR X (.type "tuple") (fun xs H Q => ∃ p ys, xs = [.ref p] ∧ SqL X.K H p ys ∧ ∀ l o, H l = none → o.dict = none → Q (.ref l) (upd H l (.frz o (.tup ys)))) := by
  intro pins s σ H xs us Q I r h
  obtain ⟨p, ys, rfl, hq, q⟩ := h
  obtain ⟨u, rfl, rx⟩ := vals1 r
  cases rx
  obtain ⟨its, r', pl, hz⟩ := I.list hq
  have hlen := r'.length
  refine call_tuple_list pl.isList (fun h' kp => ?_) (by simp only [List.size_toArray] <;> omega)
  have I1 : Inv X pins σ H { s with heap := h' } := I.kept (t' := s.toks) kp
  have I2 : Inv X pins σ (upd H h'.objs.size (.frz { cls := .type "tuple", data := .seq its.toArray } (.tup ys))) { s with heap := h'.push { cls := .type "tuple", data := .seq its.toArray } } :=
    I1.laid (t' := s.toks) (fun b o e => Heap.get?_push_of_some _ e) (Nat.le_refl _) (show ObjOk X.prog X.w _ _ _ (.frz _ (.tup ys)) from ⟨Heap.get?_push_size _ rfl, hz, its, r', IsTup.new _ _⟩)
  exact ⟨.ref h'.objs.size, _, I2, rfl, q _ _ (I1.hok.fresh (Nat.le_refl _)) rfl⟩
theorem rows_go {pins : List (Addr × Obj)} {σ : L2.St} {H : Hp} {s : Shared} {G : Hp} (I : Inv X pins σ H s) (sG : Same G H) : ∀ {xs : List V} {its : List Value} {t : List (Str × PyData)}, Vals xs its → DqAll G xs (t.map rowD) →
    ∃ (as : List Addr) (ps : List (Value × Value)) (prs : List (Key × Value)) (kvs : List (Key × V)), its = as.map Value.ref ∧ as.length = t.length ∧ ps.length = t.length ∧ prs.length = t.length ∧ TKv G kvs t ∧ KV kvs prs ∧
      (∀ (j : Nat) (k v : Value), ps[j]? = some (k, v) → (∃ b, as[j]? = some b ∧ PairAt s.heap b k v) ∧ ∃ kk, prs[j]? = some (kk, v) ∧ keyIs kk k = true)
  | _, _, [], r, h => by
    cases h
    cases r
    exact ⟨[], [], [], [], rfl, rfl, rfl, rfl, .nil, .nil, fun j k v e => by simp at e⟩
  | _, _, (x, d) :: t, r, h => by
    cases h with
    | cons h1 h2 =>
      cases r with
      | cons r1 r2 =>
        obtain ⟨as, ps, prs, kvs, e1, e2, e3, e4, e5, e6, e7⟩ := rows_go I sG r2 h2
        cases h1 with
        | tupR g1 g2 =>
          obtain ⟨v1, v2, rfl, q1, q2⟩ := g2.two
          obtain ⟨jt, rv, pt, _⟩ := I.tuple (.inl (g1.up sG))
          obtain ⟨u, y, ei, ru, ry⟩ := vals2 rv
          subst ei
          cases q1
          cases r1
          refine ⟨_ :: as, (u, y) :: ps, (.inr x, y) :: prs, (.inr x, v2) :: kvs, by rw [e1]; rfl, by simp [e2], by simp [e3], by simp [e4], .cons q2 e5, .cons ⟨rfl, ry⟩ e6, fun j k v e => ?_⟩
          cases j with
          | zero =>
            have e' : (u, y) = (k, v) := Option.some.inj e
            cases e'
            exact ⟨⟨_, rfl, .inl pt⟩, _, rfl, kV_is (P := X.prog) (w := X.w) (k := .inr x) ru⟩
          | succ j =>
            obtain ⟨⟨b, f1, f2⟩, kk, f3, f4⟩ := e7 j k v (by simpa using e)
            exact ⟨⟨b, by simpa using f1, f2⟩, kk, by simpa using f3, f4⟩
theorem TKv.merge {G : Hp} : ∀ {kvs : List (Key × V)} {t : List (Str × PyData)} {acc : List (Key × V)} {t0 : List (Str × PyData)}, TKv G kvs t → TKv G acc t0 → ((t0 ++ t).map (·.1)).Nodup → TKv G (mergeK acc kvs) (t0 ++ t)
  | _, _, acc, t0, .nil, h, _ => by
    rw [List.append_nil]
    exact h
  | _, _, acc, t0, .cons (x := x) (v := v) (d := d) (kvs := kvs) (t := t) h r, h0, nd => by
    have n : x ∉ t0.map (·.1) := fun q => by
      rw [List.map_append, List.map_cons] at nd
      exact (List.nodup_append.mp nd).2.2 x q x List.mem_cons_self rfl
    have z := TKv.merge (acc := putK acc (.inr x) v) (t0 := t0 ++ [(x, d)]) r (h0.put n h) (by simpa using nd)
    rw [List.append_assoc] at z
    exact z
/-- dict(x), x a tuple of pairs, the names different -/
theorem cr_dictT (hc : X.calm = true) : CallR X (.type "dict") (fun vs H Q => ∃ G v t, vs = [v] ∧ Same G H ∧ FrT (t.map rowD) G v ∧ (t.map (·.1)).Nodup ∧ ∀ p kvs, H p = none → TKv G kvs t → Q (.ref p) (upd H p (.dK kvs))) := by
  intro pins s σ H vs us Q I r h
  obtain ⟨G, v, t, rfl, sG, ⟨a, o, xs, rfl, h1, h2, h3⟩, nd, q⟩ := h
  obtain ⟨u, rfl, ru⟩ := vals1 r
  obtain rfl : u = Value.ref a := ru
  obtain ⟨its, rv, pl, hz⟩ := I.tuple (.inl (.inr ⟨o, sG _ _ h1⟩))
  have ho : s.heap.get? a = some o := (I.hok a _ (sG _ _ h1)).1
  obtain ⟨as, ps, prs, kvs, e1, e2, e3, e4, e5, e6, e7⟩ := rows_go I sG rv h3
  obtain ⟨o', ho', hc', n, hd⟩ := id pl
  have eo : o' = o := Option.some.inj (ho'.symm.trans ho)
  subst eo
  have hlen : its.length = t.length := by rw [e1, List.length_map, e2]
  have tz : t.length ≤ sizeLine := by
    have := h3.length
    rw [List.length_map] at this
    omega
  have ok : PlainSeq "tuple" s.heap a its.toArray ∧ PairItems s.heap its.toArray (fun j => as.getD j 0) ps := by
    refine ⟨⟨o', n, ho, hc', h2, hd⟩, by simp [hlen, e3], fun j k v e => ?_⟩
    obtain ⟨⟨b, f1, f2⟩, _⟩ := e7 j k v e
    have eb : as.getD j 0 = b := by rw [List.getD_eq_getElem?_getD, f1]; rfl
    refine ⟨?_, by show PairAt s.heap (as.getD j 0) k v; rw [eb]; exact f2⟩
    show _ = some (Value.ref (as.getD j 0))
    rw [eb, e1]
    simp [f1]
  refine PySem.call_dict_pairs (knd := mixKind X.prog X.w) (kvs := prs) (PairArg.tuple a its.toArray (fun j => as.getD j 0) ps) (I.ok.hd hc) ok ⟨by rw [e4, e3], fun i key v e => (e7 i key v e).2⟩ (by rw [e3]; exact tz) fun h' tk hd' k => ?_
  have hm : (s.heap.objs.size == sysModules) = false := beq_eq_false_iff_ne.mpr (Nat.ne_of_gt I.big)
  have T : TKv G (mergeK [] kvs) t := TKv.merge (t0 := []) e5 .nil (by simpa using nd)
  refine ⟨.ref s.heap.objs.size, upd H s.heap.objs.size (.dK (mergeK [] kvs)), I.laid (t' := tk) (fun b o e => k b o (fun h => nomatch h) e) (Nat.le_refl _) (show ObjOk X.prog X.w _ _ _ (.dK (mergeK [] kvs)) from ⟨by rw [T.length]; exact tz, hm, merged [] prs, KV.merge e6 .nil, hd'⟩), rfl, q _ _ (I.hok.fresh (Nat.le_refl _)) T⟩
variable {e a b c : Expr} {es : List Expr} {σ : St} {G G1 H : Hp} {d da db dc : PyData} {ds : List PyData} {pos p p2 p3 p4 cpos apos tpos : Pos} {tg iter kx vx : Expr} {ifs : List Expr} {scope : Scope} {R : Hp → V → Prop} {t : List (Str × PyData)}
theorem ev_tuple (hm : X.mg "tuple" = none) (ha : ED X a σ G (.list ds)) (hg : Gl X "tuple" := by rfl) (he : starEach [a] X.env = (false, eval a X.env) :: starEach [] X.env := by rfl) (hpl : (backTo pos (starEach [] X.env)).any (·.1) = false := by rfl) : EV X (.Call (.Name "tuple" p) [a] [] pos) σ G (FrT ds) := fun H s Q q =>
  we (pe_callTy cr_tupF hg hm (by decide +kernel) pa (by decide) (by decide) he hpl) (eds_cons ha eds_nil he H s _ fun vs G2 H2 y ps => by
    obtain ⟨v, rfl, h⟩ := ps.one
    cases h with
    | lst h1 h2 =>
      exact ⟨_, _, rfl, .of (y.gh _ _ h1), fun l o hl ho => q _ _ _ (y.trans (Ext.new y.gh hl)) ⟨l, o, _, rfl, upd_same, ho, h2.up (Same.laid (y.gh.free hl))⟩⟩)
/-- a worth as a datum -/
theorem EV.dat (h : EV X e σ G R) (hR : ∀ G v, R G v → Dq G v d) : ED X e σ G d := fun H s Q q => h H s Q fun v G2 H2 x r => q v G2 H2 x (hR _ _ r)
theorem ev_dict (hc : X.calm = true) (nd : (t.map (·.1)).Nodup) (hm : X.mg "dict" = none) (ha : EV X a σ G (FrT (t.map rowD))) (hg : Gl X "dict" := by rfl) (he : starEach [a] X.env = (false, eval a X.env) :: starEach [] X.env := by rfl) (hpl : (backTo pos (starEach [] X.env)).any (·.1) = false := by rfl) :
    EV X (.Call (.Name "dict" p) [a] [] pos) σ G (Tab t) := fun H s Q q =>
  we (pe_callTy (cr_dictT hc) hg hm (by decide +kernel) (pa_cons pe pa_nil he) (by decide) (by decide) he hpl) (ha H s _ fun v G2 H2 y r =>
    ⟨G2, v, t, rfl, y.gh, r, nd, fun p kvs hp T => q _ _ _ (y.trans (Ext.new y.gh hp)) ⟨p, kvs, rfl, upd_same, T.up (Same.laid (y.gh.free hp))⟩⟩)
/-! the items of a dict that is known for good -/
theorem kvs_get : ∀ {kvs : List (Key × V)} {t : List (Str × PyData)} {i : Nat} {k : Key} {v : V}, TKv G kvs t → kvs[i]? = some (k, v) → ∃ x d, t[i]? = some (x, d) ∧ k = .inr x ∧ Dq G v d
  | _, _, _, _, _, .nil, e => by simp at e
  | _, _, 0, _, _, .cons h _, e => by
    simp at e
    obtain ⟨rfl, rfl⟩ := e
    exact ⟨_, _, rfl, rfl, h⟩
  | _, _, i + 1, _, _, .cons _ r, e => by
    obtain ⟨x, d, a, b⟩ := kvs_get (i := i) r (by simpa using e)
    exact ⟨x, d, by simpa using a, b⟩
theorem Gives.items {r : Addr} {od : Obj} {kvs : List (Key × V)} (h : G r = some (.frz od (.dK kvs))) (T : TKv G kvs t) : Gives (Iti r od kvs) G (t.map rowD) where
  go := fun i G3 H3 s s3 hi => ⟨s3 _ _ (s _ _ h), by rw [T.length]; simpa using hi⟩
  yld := fun i G3 H3 x H' s s3 hi hy => by
    obtain ⟨A, k, v, e, rfl, hA, rfl⟩ := hy
    obtain ⟨z, d, e1, rfl, e3⟩ := kvs_get T e
    have gA : G3 A = none := s3.free hA
    exact ⟨rowD (z, d), upd G3 A (.tup [.str z, v]), by rw [List.getElem?_map, e1]; rfl, Ext.new s3 hA, .tupR (.inl upd_same) (.cons (.str z) (.cons (e3.up (s.trans (Same.laid gA))) .nil))⟩
  stop := fun i G3 H3 s s3 hi => ⟨s3 _ _ (s _ _ h), by rw [T.length]; simpa using hi⟩
/-- for .. in e.items(), the dict e known, and locked -/
theorem ei_items {elts : List Expr} {kk : Nat} {r : Addr} {od : Obj} {kvs : List (Key × V)} (h : G r = some (.frz od (.dK kvs))) (T : TKv G kvs t) (he : EV X e σ G (fun _ v => v = .ref r)) (hbase : attributeBase e "items" X.env (eval e X.env) = eval e X.env := by rfl) (hline : (apos.endLine == cpos.line) = true := by rfl) :
    EI X (.Tuple elts kk tpos) (.Call (.Attribute e "items" apos) [] [] cpos) σ G (t.map rowD) := fun H s Rr q =>
  wi (pi_items pe hbase hline) (he H s _ fun v G2 H2 y hv => ⟨r, od, kvs, hv, y.gh _ _ (y.gg _ _ h), q _ G2 H2 y (Gives.items (y.gg _ _ h) (T.up y.gg))⟩)
def NoSq (G : Hp) (x : Addr) : Prop := ∀ xs, G x ≠ some (.lst xs) ∧ G x ≠ some (.tup xs) ∧ ∀ o, G x ≠ some (.frz o (.tup xs))
theorem nosq_f {G : Hp} {x : Addr} {o : Obj} {kvs : List (Key × V)} (hx : G x = some (.frz o (.dK kvs))) : NoSq G x := fun xs => by
  rw [hx]
  exact ⟨fun z => (by cases z), fun z => (by cases z), fun o z => (by cases z)⟩
theorem nosq_d {G : Hp} {x : Addr} {kvs : List (Key × V)} (hx : G x = some (.dK kvs)) : NoSq G x := fun xs => by
  rw [hx]
  exact ⟨fun z => (by cases z), fun z => (by cases z), fun o z => (by cases z)⟩
mutual
theorem Dq.swap {G : Hp} {x : Addr} {u : HO} (hx : NoSq G x) : ∀ (d : PyData) (v : V), Dq G v d → Dq (upd G x u) v d
  | .none, _, h => by cases h; exact .non
  | .bool b, _, h => by cases h; exact .bl b
  | .int i, _, h => by cases h; exact .int i
  | .str x, _, h => by cases h; exact .str x
  | .list ds, _, h => by
    cases h with
    | lst h1 h2 => exact .lst (by rw [upd_ne (fun z => by subst z; exact (hx _).1 h1)]; exact h1) (Dq.swapAll hx ds _ h2)
  | .tuple ds, _, h => by
    cases h with
    | tupR h1 h2 =>
      refine .tupR ?_ (Dq.swapAll hx ds _ h2)
      rcases h1 with h1 | ⟨o', h1⟩
      · exact .inl (by rw [upd_ne (fun z => by subst z; exact (hx _).2.1 h1)]; exact h1)
      · exact .inr ⟨o', by rw [upd_ne (fun z => by subst z; exact (hx _).2.2 _ h1)]; exact h1⟩
  | .dict _, _, h => by cases h
theorem Dq.swapAll {G : Hp} {x : Addr} {u : HO} (hx : NoSq G x) : ∀ (ds : List PyData) (vs : List V), DqAll G vs ds → DqAll (upd G x u) vs ds
  | [], _, h => by cases h; exact .nil
  | d :: ds, _, h => by
    cases h with
    | cons h1 h2 => exact .cons (Dq.swap hx d _ h1) (Dq.swapAll hx ds _ h2)
end
theorem TKv.swap {G : Hp} {x : Addr} {u : HO} (hx : NoSq G x) : ∀ {kvs' : List (Key × V)} {t : List (Str × PyData)}, TKv G kvs' t → TKv (upd G x u) kvs' t
  | _, _, .nil => .nil
  | _, _, .cons h r => .cons (Dq.swap hx _ _ h) (TKv.swap hx r)
def Swaps (R : Hp → V → Prop) : Prop := ∀ G x o kvs u v, G x = some (.frz o (.dK kvs)) → R G v → R (upd G x u) v
theorem swaps_dq (d : PyData) : Swaps (fun G v => Dq G v d) := fun G x o kvs u v hx h => Dq.swap (nosq_f hx) _ _ h
theorem swaps_tab (t : List (Str × PyData)) : Swaps (Tab t) := fun G x o kvs u v hx h => by
  obtain ⟨a, kvs', e, h1, h2⟩ := h
  exact ⟨a, kvs', e, by rw [upd_ne (fun z => by subst z; rw [hx] at h1; cases h1)]; exact h1, h2.swap (nosq_f hx)⟩
/-- an expression read with the dict at r locked -/
theorem ev_lock {r : Addr} {kvs : List (Key × V)} (hr : G r = some (.dK kvs)) (sw : Swaps R) (h : ∀ od, EV X e σ (upd G r (.frz od (.dK kvs))) R) : EV X e σ G R := fun H s Q q =>
  we (pe_lock pe) ⟨r, .dK kvs, s _ _ hr, trivial, fun od => h od (upd H r (.frz od (.dK kvs))) s.laid2 _ fun v G2 H2 x rv => by
    have hG : G2 r = some (.frz od (.dK kvs)) := x.gg _ _ upd_same
    have hH : H2 r = some (.frz od (.dK kvs)) := x.gh _ _ hG
    have ne : ∀ b o, G b = some o → b ≠ r → G2 b = some o := fun b o e z => x.gg b o (by rw [upd_ne z]; exact e)
    refine ⟨hH, q v (upd G2 r (.dK kvs)) _ ⟨fun b o e => ?_, fun b o e => ?_, x.gh.laid2, fun b h1 h2 => ?_⟩ (sw _ _ _ _ _ _ hG rv)⟩
    · by_cases z : b = r
      · subst z
        rw [upd_same, ← hr]
        exact e
      · rw [upd_ne z]
        exact ne b o e z
    · by_cases z : b = r
      · subst z
        rw [upd_same, ← s _ _ hr]
        exact e
      · rw [upd_ne z]
        exact x.hh b o (by rw [upd_ne z]; exact e)
    · have z : b ≠ r := fun z => by rw [z, hr] at h2; cases h2
      rw [upd_ne z]
      exact x.out b (by rw [upd_ne z]; exact h1) (by rw [upd_ne z]; exact h2)⟩
theorem ev_drop {t2 : List (Str × PyData)} (h : EV X e σ G (Tab t)) (z : t = t2) : EV X e σ G (Tab t2) := z ▸ h
end
end Wk
set_option maxHeartbeats 4000000
/-! More walks: the signs of a text, two rows at once; chains of <=. -/
namespace Wk
open PySem PySem.Spec PyProof.Rows L2
theorem pasN {X : Cx} {E : XK} : Passes CX0 X E := fun _ _ _ _ _ _ _ h => h.elim
theorem blk_ok (N : List Str) (sc scope : Scope) (own : List (Str × Nat)) (h : (scope.kind = .function) ∧ (∀ y ∈ scope.names, scope.names.lookup y.1 = some y.2) ∧ (∀ p ∈ own, N[p.2]? = some p.1) ∧ (∀ y ∈ scope.names, y.2 = .free → sc.names.lookup y.1 = some .cell ∨ sc.names.lookup y.1 = some .free) ∧
    (∀ y ∈ scope.names, y.2 = .local ∨ y.2 = .cell → y.1 ∈ own.map (·.1) ∨ y.1 ∉ N)) : BlkOk N sc scope own := ⟨h.1, h.2.1, h.2.2.1, h.2.2.2.1, h.2.2.2.2⟩
def eN : XK := fun _ _ _ => False
section
variable {X : Cx} {e a b c : Expr} {es : List Expr} {σ : St} {G G1 H : Hp} {d da db dc : PyData} {ds : List PyData} {pos p p2 p3 p4 cpos apos tpos : Pos} {tg iter kx vx : Expr} {ifs : List Expr} {scope : Scope} {R : Hp → V → Prop} {t : List (Str × PyData)}
theorem et_le2 {i j k : Int} (ha : ED X a σ G (.int i)) (hb : ED X b σ G (.int j)) (hc : ED X c σ G (.int k)) (hm : lastMarks [.LtE, .LtE] [b, c] = false := by with_unfolding_all rfl) :
    ET X (.Compare a [.LtE, .LtE] [b, c] pos) σ G (decide (i ≤ j) && decide (j ≤ k)) := fun H s Q q =>
  wt (pt_chain op_le op_le pe pe pe hm) (ha H s _ fun v G2 H2 y p => hb.up y.gg H2 y.gh _ fun w G3 H3 y2 p2 => by
    cases p
    cases p2
    refine ⟨i, j, rfl, rfl, decide (i ≤ j), rfl, ?_⟩
    have yy := y.trans y2
    by_cases z : i ≤ j
    · rw [if_pos (by simpa using z)]
      refine (hc.up yy.gg) H3 yy.gh _ fun u G4 H4 y3 p3 => ?_
      cases p3
      refine ⟨j, k, rfl, rfl, decide (j ≤ k), rfl, ?_⟩
      have r := q G4 H4 (yy.trans y3)
      simp only [z, decide_true, Bool.true_and] at r
      exact r
    · rw [if_neg (by simpa using z)]
      refine ⟨false, rfl, ?_⟩
      have r := q G3 H3 yy
      simp only [z, decide_false, Bool.false_and] at r
      exact r)
theorem Gives.str {G : Hp} (x : Str) : Gives (Its x) G (x.cps.toList.map fun c => PyData.str ⟨#[c]⟩) where
  go := fun i G3 H3 s s3 hi => by
    have h : i < x.cps.size := by simpa using hi
    exact h
  yld := fun i G3 H3 y H' s s3 hi hy => by
    obtain ⟨rfl, c, h1, rfl⟩ := hy
    exact ⟨_, G3, by rw [List.getElem?_map, Array.getElem?_toList, h1]; rfl, Ext.refl s3, .str _⟩
  stop := fun i G3 H3 s s3 hi => by
    have h : x.cps.size ≤ i := by simpa using hi
    exact h
theorem ei_str {z : Str} (h : ED X iter σ G (.str z)) : EI X tg iter σ G (z.cps.toList.map fun c => PyData.str ⟨#[c]⟩) := fun H s Rr q =>
  wi (pi_str pe) (h H s _ fun v G2 H2 y p => by
    cases p
    exact ⟨z, rfl, q _ G2 H2 y (Gives.str z)⟩)
def zipD (ds es : List PyData) : List PyData := (ds.zip es).map fun p => .tuple [p.1, p.2]
theorem zip_at {ds es : List PyData} {i : Nat} {x y : PyData} (h1 : ds[i]? = some x) (h2 : es[i]? = some y) : (zipD ds es)[i]? = some (.tuple [x, y]) := by
  unfold zipD
  rw [List.getElem?_map]
  have : (ds.zip es)[i]? = some (x, y) := by
    rw [List.getElem?_zip_eq_some]
    exact ⟨h1, h2⟩
  rw [this]
  rfl
theorem zipD_len (ds es : List PyData) : (zipD ds es).length = min ds.length es.length := by simp [zipD]
theorem Gives.zipL {K : PySem.W.Frag} {r r' : Addr} {xs ys : List V} {es : List PyData} (h : G r = some (.lst xs)) (hd : DqAll G xs ds) (h' : G r' = some (.lst ys)) (hd' : DqAll G ys es) : Gives (Itz K r r') G (zipD ds es) where
  go := fun i G3 H3 s s3 hi => by
    rw [zipD_len, ← hd.length, ← hd'.length] at hi
    have h1 : i < xs.length := by omega
    have h2 : i < ys.length := by omega
    exact ⟨xs, ys, xs[i], ys[i], .of (s3 _ _ (s _ _ h)), .of (s3 _ _ (s _ _ h')), by simp [h1], by simp [h2]⟩
  yld := fun i G3 H3 x H' s s3 hi hy => by
    obtain ⟨T, u, w, rfl, hT, rfl, hx, hy⟩ := hy
    rw [zipD_len] at hi
    have k1 : i < ds.length := by omega
    have k2 : i < es.length := by omega
    have ex := hx xs (.of (s3 _ _ (s _ _ h)))
    have ey := hy ys (.of (s3 _ _ (s _ _ h')))
    obtain ⟨v1, a1, a2⟩ := hd.get (List.getElem?_eq_getElem k1)
    obtain ⟨v2, b1, b2⟩ := hd'.get (List.getElem?_eq_getElem k2)
    rw [a1] at ex
    rw [b1] at ey
    cases ex
    cases ey
    have gT : G3 T = none := s3.free hT
    exact ⟨_, upd G3 T (.tup [u, w]), zip_at (List.getElem?_eq_getElem k1) (List.getElem?_eq_getElem k2), Ext.new s3 hT, .tupR (.inl upd_same) (.cons (a2.up (s.trans (Same.laid gT))) (.cons (b2.up (s.trans (Same.laid gT))) .nil))⟩
  stop := fun i G3 H3 s s3 hi => ⟨xs, ys, .of (s3 _ _ (s _ _ h)), .of (s3 _ _ (s _ _ h')), by
    rw [zipD_len, ← hd.length, ← hd'.length] at hi
    omega⟩
theorem Gives.zipT {K : PySem.W.Frag} {r r' : Addr} {xs ys : List V} {es : List PyData} (h : Rd G r (.tup xs)) (hd : DqAll G xs ds) (h' : Rd G r' (.tup ys)) (hd' : DqAll G ys es) : Gives (RZ.ItzT K r r') G (zipD ds es) where
  go := fun i G3 H3 s s3 hi => by
    rw [zipD_len, ← hd.length, ← hd'.length] at hi
    have h1 : i < xs.length := by omega
    have h2 : i < ys.length := by omega
    exact ⟨xs, ys, xs[i], ys[i], .inl ((h.up s).up s3), .inl ((h'.up s).up s3), by simp [h1], by simp [h2]⟩
  yld := fun i G3 H3 x H' s s3 hi hy => by
    obtain ⟨T, u, w, rfl, hT, rfl, hx, hy⟩ := hy
    rw [zipD_len] at hi
    have k1 : i < ds.length := by omega
    have k2 : i < es.length := by omega
    have ex := hx xs (.inl ((h.up s).up s3))
    have ey := hy ys (.inl ((h'.up s).up s3))
    obtain ⟨v1, a1, a2⟩ := hd.get (List.getElem?_eq_getElem k1)
    obtain ⟨v2, b1, b2⟩ := hd'.get (List.getElem?_eq_getElem k2)
    rw [a1] at ex
    rw [b1] at ey
    cases ex
    cases ey
    have gT : G3 T = none := s3.free hT
    exact ⟨_, upd G3 T (.tup [u, w]), zip_at (List.getElem?_eq_getElem k1) (List.getElem?_eq_getElem k2), Ext.new s3 hT, .tupR (.inl upd_same) (.cons (a2.up (s.trans (Same.laid gT))) (.cons (b2.up (s.trans (Same.laid gT))) .nil))⟩
  stop := fun i G3 H3 s s3 hi => ⟨xs, ys, .inl ((h.up s).up s3), .inl ((h'.up s).up s3), by
    rw [zipD_len, ← hd.length, ← hd'.length] at hi
    omega⟩
theorem ei_zip {es' : List PyData} {elts : List Expr} {kk : Nat} (hd : (da = .list ds ∧ db = .list es') ∨ (da = .tuple ds ∧ db = .tuple es')) (hm : X.mg "zip" = none) (ha : ED X a σ G da) (hb : ED X b σ G db) (hg : Gl X "zip" := by rfl)
    (hs : starEach [a, b] X.env = (false, eval a X.env) :: starEach [b] X.env := by rfl) (hs2 : starEach [b] X.env = (false, eval b X.env) :: starEach [] X.env := by rfl) (hpl : (backTo pos (starEach [b] X.env)).any (·.1) = false := by rfl) :
    EI X (.Tuple elts kk tpos) (.Call (.Name "zip" p) [a, b] [] pos) σ G (zipD ds es') := fun H s Rr q =>
  wi (RZ.pi_zipA hg hm pa hs hpl) (eds_cons ha (eds_cons hb eds_nil hs2) hs H s _ fun vs G2 H2 y ps => by
    obtain ⟨v, v', rfl, h, h'⟩ := ps.two
    rcases hd with ⟨rfl, rfl⟩ | ⟨rfl, rfl⟩
    · cases h with
      | lst h1 h2 =>
        cases h' with
        | lst h3 h4 => exact ⟨_, _, _, _, rfl, .inl ⟨.of (y.gh _ _ h1), .of (y.gh _ _ h3), q _ G2 H2 y (Gives.zipL h1 h2 h3 h4)⟩⟩
    · cases h with
      | tupR h1 h2 =>
        cases h' with
        | tupR h3 h4 => exact ⟨_, _, _, _, rfl, .inr ⟨.inl (h1.up y.gh), .inl (h3.up y.gh), q _ G2 H2 y (Gives.zipT h1 h2 h3 h4)⟩⟩)
end
end Wk
set_option maxHeartbeats 4000000
/-! Comprehensions by one name, by two names. -/
namespace Wk
open PySem PySem.Spec PyProof.Rows L2
section
variable {X : Cx} {e a b c : Expr} {es : List Expr} {σ : St} {G G1 H : Hp} {d da db dc : PyData} {ds : List PyData} {pos p p2 p3 p4 cpos apos tpos : Pos} {tg iter elt kx vx : Expr} {ifs : List Expr} {scope : Scope}
theorem wipe1 {i : Nat} {u : Option V} (σ : St) : wipe ((σ.set i none).set i u) [i] = wipe σ [i] := by
  show ((σ.set i none).set i u).set i none = σ.set i none
  rw [List.set_set, List.set_set]
theorem loc_in {x : Str} {C : Addr} {cl : List (Str × Addr)} {env : Env} (h : scope.names.lookup x = some .local) : (compEnvC scope cl C env).scope.names.lookup x = some .local := lookup_relabel_local h
theorem ed_lc1f {α : Type} {x : Str} (i : Nat) (xs : List α) (enc : α → PyData) (pr : α → Bool) (g : α → PyData) (hz : xs.length ≤ 100000) (hc : X.calm = true) (hN : X.N.Nodup) (ok : BlkOk X.N X.env.scope scope [(x, i)]) (hi : EI X (.Name x p) iter σ G (xs.map enc))
    (ht : ∀ x ∈ xs, ∀ G3, Same G G3 → ∀ u, Dq G3 u (enc x) → InB X scope fun Y => ETs Y ifs ((σ.set i none).set i (some u)) G3 (pr x))
    (he : ∀ x ∈ xs, pr x = true → ∀ G3, Same G G3 → ∀ u, Dq G3 u (enc x) → InB X scope fun Y => ED Y elt ((σ.set i none).set i (some u)) G3 (g x)) (hs : ∀ x, foldedSetIterable iter X.env x = pure x := by intro _; rfl)
    (hii : X.N[i]? = some x := by rfl) (hx : scope.names.lookup x = some .local := by rfl) :
    ED X (.ListComp elt [⟨.Name x p, iter, ifs, 0⟩] scope pos) σ G (.list ((xs.filter pr).map g)) :=
  ed_lc xs enc pr g (fun c G σ2 => ∃ u, Dq G u (enc c) ∧ σ2 = (σ.set i none).set i (some u)) [(x, i)] hz hc hN ok hi (fun c _ G3 _ s0 H0 C cl fp => bnd_name i hN hii (.inl (loc_in hx)) (.inr (loc_in hx))) (by
    rintro c _ G3 σ2 ⟨u, _, rfl⟩
    exact wipe1 σ) (by
    rintro c hm G3 s3 σ2 ⟨u, hu, rfl⟩
    exact ht c hm G3 s3 u hu) (by
    rintro c hm hp G3 s3 σ2 ⟨u, hu, rfl⟩
    exact he c hm hp G3 s3 u hu) hs
theorem ed_lc1 {α : Type} {x : Str} (i : Nat) (xs : List α) (enc : α → PyData) (g : α → PyData) (hz : xs.length ≤ 100000) (hc : X.calm = true) (hN : X.N.Nodup) (ok : BlkOk X.N X.env.scope scope [(x, i)]) (hi : EI X (.Name x p) iter σ G (xs.map enc))
    (he : ∀ x ∈ xs, ∀ G3, Same G G3 → ∀ u, Dq G3 u (enc x) → InB X scope fun Y => ED Y elt ((σ.set i none).set i (some u)) G3 (g x)) (hs : ∀ x, foldedSetIterable iter X.env x = pure x := by intro _; rfl)
    (hii : X.N[i]? = some x := by rfl) (hx : scope.names.lookup x = some .local := by rfl) :
    ED X (.ListComp elt [⟨.Name x p, iter, [], 0⟩] scope pos) σ G (.list (xs.map g)) :=
  ED.to (ed_lc1f i xs enc (fun _ => true) g hz hc hN ok hi (fun c _ G3 _ u _ s0 H0 C cl fp => ets_nil) (fun c hm _ => he c hm) hs hii hx) (by rw [filter_yes])
theorem wipe2 {i j : Nat} {u w : Option V} (σ : St) : wipe ((((σ.set j none).set i none).set i u).set j w) [i, j] = wipe σ [i, j] := by
  show (((((σ.set j none).set i none).set i u).set j w).set j none).set i none = (σ.set j none).set i none
  by_cases h : i = j
  · subst h
    simp only [List.set_set]
  · simp only [List.set_set]
    rw [List.set_comm u none h, List.set_set, List.set_set]
theorem bnd_pr {x y : Str} {k : Nat} (i j : Nat) (hd : seqOf d = some [da, db]) (hc : X.calm = true) (hN : X.N.Nodup) (hi : X.N[i]? = some x) (hx : Loc X.env.scope x) (hf : X.fn x = true ∨ X.env.scope.names.lookup x = some .local)
    (hj : X.N[j]? = some y) (hy : Loc X.env.scope y) (hf2 : X.fn y = true ∨ X.env.scope.names.lookup y = some .local) :
    Bnd X (.Tuple [.Name x p2, .Name y p3] k p) σ G d (fun σ2 => ∃ v w, Dq G v da ∧ Dq G w db ∧ σ2 = (σ.set i (some v)).set j (some w)) := bnd_pair i j hd hc hN hi hx hf hj hy hf2
theorem ed_lc2 {α : Type} {x y : Str} {k : Nat} (i j : Nat) (xs : List α) (ea eb : α → PyData) (enc : α → PyData) (g : α → PyData) (hE : ∀ c ∈ xs, seqOf (enc c) = some [ea c, eb c]) (hz : xs.length ≤ 100000) (hc : X.calm = true) (hN : X.N.Nodup) (ok : BlkOk X.N X.env.scope scope [(x, i), (y, j)]) (hi : EI X (.Tuple [.Name x p2, .Name y p3] k p) iter σ G (xs.map enc))
    (he : ∀ c ∈ xs, ∀ G3, Same G G3 → ∀ u w, Dq G3 u (ea c) → Dq G3 w (eb c) → InB X scope fun Y => ED Y elt ((((σ.set j none).set i none).set i (some u)).set j (some w)) G3 (g c)) (hs : ∀ x, foldedSetIterable iter X.env x = pure x := by intro _; rfl)
    (hii : X.N[i]? = some x := by rfl) (hx : scope.names.lookup x = some .local := by rfl)
    (hjj : X.N[j]? = some y := by rfl) (hy : scope.names.lookup y = some .local := by rfl) :
    ED X (.ListComp elt [⟨.Tuple [.Name x p2, .Name y p3] k p, iter, [], 0⟩] scope pos) σ G (.list (xs.map g)) :=
  ED.to (ed_lc xs enc (fun _ => true) g (fun c G σ2 => ∃ v w, Dq G v (ea c) ∧ Dq G w (eb c) ∧ σ2 = (((σ.set j none).set i none).set i (some v)).set j (some w)) [(x, i), (y, j)] hz hc hN ok hi (fun c hm G3 _ s0 H0 C cl fp => bnd_pr i j (hE c hm) hc hN hii (.inl (loc_in hx)) (.inr (loc_in hx)) hjj (.inl (loc_in hy)) (.inr (loc_in hy))) (by
    rintro c _ G3 σ2 ⟨u, w, _, _, rfl⟩
    exact wipe2 σ) (fun c _ G3 _ σ2 _ s0 H0 C cl fp => ets_nil) (by
    rintro c hm _ G3 s3 σ2 ⟨u, w, hu, hw, rfl⟩
    exact he c hm G3 s3 u w hu hw) hs) (by rw [filter_yes])
theorem ev_dc2 {α : Type} {x y : Str} {k : Nat} (i j : Nat) (xs : List α) (ea eb : α → PyData) (enc : α → PyData) (kf : α → Str) (g : α → PyData) (hE : ∀ c ∈ xs, seqOf (enc c) = some [ea c, eb c]) (hz : xs.length ≤ 100000) (nd : (xs.map kf).Nodup) (hc : X.calm = true) (hN : X.N.Nodup) (ok : BlkOk X.N X.env.scope scope [(x, i), (y, j)]) (hi : EI X (.Tuple [.Name x p2, .Name y p3] k p) iter σ G (xs.map enc))
    (hk : ∀ c ∈ xs, ∀ G3, Same G G3 → ∀ u w, Dq G3 u (ea c) → Dq G3 w (eb c) → InB X scope fun Y => ED Y kx ((((σ.set j none).set i none).set i (some u)).set j (some w)) G3 (.str (kf c)))
    (he : ∀ c ∈ xs, ∀ G3, Same G G3 → ∀ u w, Dq G3 u (ea c) → Dq G3 w (eb c) → InB X scope fun Y => ED Y vx ((((σ.set j none).set i none).set i (some u)).set j (some w)) G3 (g c)) (hs : ∀ x, foldedSetIterable iter X.env x = pure x := by intro _; rfl)
    (hii : X.N[i]? = some x := by rfl) (hx : scope.names.lookup x = some .local := by rfl)
    (hjj : X.N[j]? = some y := by rfl) (hy : scope.names.lookup y = some .local := by rfl) :
    EV X (.DictComp kx vx [⟨.Tuple [.Name x p2, .Name y p3] k p, iter, [], 0⟩] scope pos) σ G (Tab (xs.map fun c => (kf c, g c))) :=
  ev_dc xs enc kf g (fun c G σ2 => ∃ v w, Dq G v (ea c) ∧ Dq G w (eb c) ∧ σ2 = (((σ.set j none).set i none).set i (some v)).set j (some w)) [(x, i), (y, j)] hz nd hc hN ok hi (fun c hm G3 _ s0 H0 C cl fp => bnd_pr i j (hE c hm) hc hN hii (.inl (loc_in hx)) (.inr (loc_in hx)) hjj (.inl (loc_in hy)) (.inr (loc_in hy))) (by
    rintro c _ G3 σ2 ⟨u, w, _, _, rfl⟩
    exact wipe2 σ) (by
    rintro c hm G3 s3 σ2 ⟨u, w, hu, hw, rfl⟩
    exact hk c hm G3 s3 u w hu hw) (by
    rintro c hm G3 s3 σ2 ⟨u, w, hu, hw, rfl⟩
    exact he c hm G3 s3 u w hu hw) hs
theorem cut_from (ds : List PyData) (k : Nat) : cutD ds (some (k : Int)) none = ds.drop k := by
  unfold cutD
  rw [HT.sIx_nat, HT.sIx_none]
  by_cases h : k ≤ ds.length
  · rw [Nat.min_eq_left h, List.take_of_length_le (by rw [List.length_drop]; exact Nat.le_refl _)]
  · have h' : ds.length ≤ k := by omega
    rw [Nat.min_eq_right h', List.drop_of_length_le (Nat.le_refl _), List.drop_of_length_le h']
    simp
theorem cut_to (ds : List PyData) (k : Nat) : cutD ds none (some (k : Int)) = ds.take k := by
  unfold cutD
  rw [HT.sIx_nat, HT.sIx_none]
  by_cases h : k ≤ ds.length
  · rw [Nat.min_eq_left h]
    simp
  · have h' : ds.length ≤ k := by omega
    rw [Nat.min_eq_right h', List.take_of_length_le h']
    simp
end
end Wk
set_option maxHeartbeats 4000000
namespace Wk
open PySem PySem.Spec PyProof.Rows L2
section
variable {P : Program} {w : World} {K : PySem.W.Frag} {mg : Str → Option Value} {base : Heap}
/-! ### is_pair -/
def RPair (ds : List PyData) (d : PyData) : Prop := ∃ a b, ds = [.tuple [a, b]] ∧ d = .bool true
theorem ok_is_pair {f : Addr} {fd : FuncData} (B : Bi mg) (F : Fun K "is_pair" "is_pair" sis_pair f fd) : FnOk P w K mg base CX0 1 f fd ["value"] (PureSp RPair) := by
  refine pure_ok F cis_pair (fun ds d h => by obtain ⟨a, b, rfl, _⟩ := h; rfl) fun cdv A outer s H E G vs ds d Q hr sG hv hR q => ?_
  obtain ⟨a, b, rfl, rfl⟩ := hR
  obtain ⟨v, rfl, hv1⟩ := hv.one
  obtain ⟨t, hP⟩ := B.PAIR
  refine b_one (s_ret (ed_and (k := true) (ed_isi B.isinstance (ed_var 0 rfl hv1) B.tuple boot_tuple (show kitB "tuple" "tuple" = some true by decide +kernel)) (fun _ => ed_one ?_) (fun h => by cases h)) sG q)
  exact (ed_eqI (ed_len rfl B.len (ed_var 0 rfl hv1)) (ed_glob (v := .int 2) hP ⟨_, rfl⟩ (.int 2))).to rfl
/-! ### is_name -/
def letters : List Nat := Str.cps "abcdefghijklmnopqrstuvwxyz" |>.toList
structure Nm (x : Str) : Prop where
  lo : 1 ≤ x.length
  hi : x.length ≤ 8
  all : ∀ c ∈ x.cps.toList, c ∈ letters
def RName (ds : List PyData) (d : PyData) : Prop := ∃ x, ds = [.str x] ∧ Nm x ∧ d = .bool true
theorem ok_is_name {f : Addr} {fd : FuncData} (B : Bi mg) (F : Fun K "is_name" "is_name" sis_name f fd) : FnOk P w K mg base CX0 1 f fd ["value"] (PureSp RName) := by
  refine pure_ok F cis_name (fun ds d h => by obtain ⟨a, rfl, _⟩ := h; rfl) fun cdv A outer s H E G vs ds d Q hr sG hv hR q => ?_
  obtain ⟨x, rfl, hx, rfl⟩ := hR
  obtain ⟨v, rfl, hv1⟩ := hv.one
  obtain ⟨t, hL⟩ := B.LONGEST
  obtain ⟨t2, hT⟩ := B.LETTERS
  refine b_cons (s_if (k := false) (ET.to (EW.t (ew_or (et_not (et_val (ed_isi B.isinstance (ed_var 0 rfl hv1) B.str boot_str (show kitB "str" "str" = some true by decide +kernel)))) fun _ => ew_or1 (et_not (et_le2 ed_int (ed_lenS (Nat.le_trans hx.hi (by decide)) B.len (ed_var 0 rfl hv1)) (ed_glob (v := .int 8) hL ⟨_, rfl⟩ (.int 8)))))) ?_) sG (fun h => by cases h) fun _ G1 H1 y => b_nil ?_)
  · have h1 := hx.lo
    have h2 := hx.hi
    have e1 : decide ((1 : Int) ≤ (x.length : Nat)) = true := by simp; omega
    have e2 : decide (((x.length : Nat) : Int) ≤ 8) = true := by simp; omega
    rw [e1, e2]
    rfl
  · have hv2 := hv1.up y.gg
    refine b_one (s_ret ?_ y.gh (RD.ext q y))
    refine ED.to (ed_all (bs := (x.cps.toList.filter (fun _ => true)).map fun c => decide (c ∈ letters)) rfl B.all ?_) ?_
    · refine ED.to (ed_lc x.cps.toList (fun c => .str ⟨#[c]⟩) (fun _ => true) (fun c => .bool (decide (c ∈ letters))) (fun c G σ2 => ∃ u, Dq G u (.str ⟨#[c]⟩) ∧ σ2 = [some v, some u]) [("letter", 1)] ?_ rfl cis_name.nd (blk_ok nis_name (defScope sis_name) _ _ (by decide +kernel)) (ei_str (ed_var 0 rfl hv2)) ?_ ?_ ?_ ?_) ?_
      · have := hx.hi
        show x.cps.size ≤ _
        unfold Str.length at this
        omega
      · intro c _ G3 _ s0 H0 C cl fp
        exact bnd_name 1 cis_name.nd
      · rintro c _ G3 σ2 ⟨u, _, rfl⟩
        rfl
      · intro c _ G3 _ σ2 _ s0 H0 C cl fp
        exact ets_nil
      · rintro c _ _ G3 _ σ2 ⟨u, hu, rfl⟩ s0 H0 C cl fp
        exact ed_sign (ed_var 1 rfl hu) (ed_glob (v := .str "abcdefghijklmnopqrstuvwxyz") hT ⟨_, rfl⟩ (.str _))
      · rw [List.map_map]
        rfl
    · rw [filter_yes, List.all_map]
      congr 1
      simp only [List.all_eq_true, Function.comp_apply, decide_eq_true_eq]
      exact fun c hc => by simpa using hx.all c hc
end
end Wk
set_option maxHeartbeats 4000000
namespace Wk
open PySem PySem.Spec PyProof.Rows L2
theorem EI.to {X : Cx} {tg iter : Expr} {σ : St} {G : Hp} {ds es : List PyData} (h : EI X tg iter σ G ds) (z : ds = es) : EI X tg iter σ G es := z ▸ h
def strsD (xs : List Str) : List PyData := xs.map .str
def prD (p : Str × Str) : PyData := .tuple [.str p.1, .str p.2]
section
variable {P : Program} {w : World} {K : PySem.W.Frag} {mg : Str → Option Value} {base : Heap}
/-! ### is_rising -/
def Asc (xs : List Str) : Prop := xs.Pairwise fun a b => a.cps.toList < b.cps.toList
theorem asc_zip : ∀ (xs : List Str), Asc xs → ∀ p ∈ xs.zip (xs.drop 1), p.1.cps.toList < p.2.cps.toList
  | [], _, p, h => by simp at h
  | [x], _, p, h => by simp at h
  | x :: y :: r, h, p, hp => by
    rw [List.drop_succ_cons, List.drop_zero, List.zip_cons_cons] at hp
    obtain ⟨h1, h2⟩ := List.pairwise_cons.mp h
    rcases List.mem_cons.mp hp with rfl | hp
    · exact h1 y List.mem_cons_self
    · exact asc_zip (y :: r) h2 p hp
theorem zip_strs (xs ys : List Str) : zipD (xs.map .str) (ys.map .str) = (xs.zip ys).map prD := by
  unfold zipD
  rw [List.zip_map, List.map_map]
  rfl
def RRise (ds : List PyData) (d : PyData) : Prop := ∃ xs, ds = [.list (xs.map .str)] ∧ Asc xs ∧ xs.length ≤ 1000 ∧ d = .bool true
theorem ok_is_rising {f : Addr} {fd : FuncData} (B : Bi mg) (F : Fun K "is_rising" "is_rising" sis_rising f fd) : FnOk P w K mg base CX0 1 f fd ["row"] (PureSp RRise) := by
  refine pure_ok F cis_rising (fun ds d h => by obtain ⟨a, rfl, _⟩ := h; rfl) fun cdv A outer s H E G vs ds d Q hr sG hv hR q => ?_
  obtain ⟨xs, rfl, ha, hz, rfl⟩ := hR
  obtain ⟨v, rfl, hv1⟩ := hv.one
  refine b_one (s_ret ?_ sG q)
  refine ED.to (ed_all (bs := (xs.zip (xs.drop 1)).map fun p => decide (p.1.cps.toList < p.2.cps.toList)) rfl B.all ?_) ?_
  · refine ED.to (ed_lc2 1 2 (xs.zip (xs.drop 1)) (fun p => .str p.1) (fun p => .str p.2) prD (fun p => .bool (decide (p.1.cps.toList < p.2.cps.toList))) (fun _ _ => rfl) ?_ rfl cis_rising.nd (blk_ok nis_rising (defScope sis_rising) _ _ (by decide +kernel))
      (EI.to (ei_zip (.inl ⟨rfl, rfl⟩) B.zip (ed_var 0 rfl hv1) (ed_slL (ed_var 0 rfl hv1) (eo_some (i := 1) ed_int) eo_none)) ?_) ?_) ?_
    · rw [List.length_zip]
      omega
    · rw [show (1 : Int) = ((1 : Nat) : Int) from rfl, cut_from, ← List.map_drop]
      exact zip_strs _ _
    · intro p _ G3 _ u u2 hu hu2 s0 H0 C cl fp
      exact ed_lts (ed_var 1 rfl hu) (ed_var 2 rfl hu2)
    · rw [List.map_map]
      rfl
  · rw [List.all_map]
    congr 1
    simp only [List.all_eq_true, Function.comp_apply]
    exact fun p hp => by simpa using asc_zip xs ha p hp
/-! ### set_of -/
def RSetOf (ds : List PyData) (d : PyData) : Prop := ∃ xs : List Str, ds = [.list (xs.map .str)] ∧ xs.Nodup ∧ xs.length ≤ 1000 ∧ d = .tuple ((sSort xs).map .str)
theorem ok_set_of {f : Addr} {fd : FuncData} (B : Bi mg) (F : Fun K "set_of" "set_of" sset_of f fd) : FnOk P w K mg base CX0 1 f fd ["some"] (PureSp RSetOf) := by
  refine pure_ok F cset_of (fun ds d h => by obtain ⟨a, rfl, _⟩ := h; rfl) fun cdv A outer s H E G vs ds d Q hr sG hv hR q => ?_
  obtain ⟨xs, rfl, ha, hz, rfl⟩ := hR
  obtain ⟨v, rfl, hv1⟩ := hv.one
  refine b_one (s_ret ?_ sG q)
  exact ed_tuple rfl B.tuple (ed_sortset rfl hr.units ha hz B.sorted B.set (ed_var 0 rfl hv1))
/-! ### tupled -/
def flatN : Nat → PyData → Bool
  | 0, d => (seqOf d).isNone
  | n + 1, d => match seqOf d with
    | some ds => decide (ds.length ≤ 100000) && ds.all (flatN n)
    | none => true
def tupN : Nat → PyData → PyData
  | 0, d => d
  | n + 1, d => match seqOf d with
    | some ds => .tuple (ds.map (tupN n))
    | none => d
def TupR (n : Nat) (d : PyData) (G : Hp) (v : V) : Prop := match seqOf d with
  | some ds => FrT (ds.map (tupN (n - 1))) G v
  | none => Dq G v d
theorem TupR.dq {n : Nat} {d : PyData} {G : Hp} {v : V} (hf : flatN n d = true) (h : TupR n d G v) : Dq G v (tupN n d) := by
  unfold TupR at h
  cases e : seqOf d with
  | none =>
    rw [e] at h
    cases n with
    | zero => exact h
    | succ n =>
      unfold tupN
      rw [e]
      exact h
  | some ds =>
    rw [e] at h
    cases n with
    | zero =>
      unfold flatN at hf
      rw [e] at hf
      cases hf
    | succ n =>
      unfold tupN
      rw [e]
      exact h.dq
/-- what tupled does, up to a depth -/
def SpTup (n : Nat) : Sp := fun vs H Q _ => ∃ G v d, vs = [v] ∧ Same G H ∧ Dq G v d ∧ flatN n d = true ∧ ∀ v2 G2 H2, Ext G H G2 H2 → TupR n d G2 v2 → Q v2 H2
theorem ev_if {X : Cx} {c a b : Expr} {σ : St} {G : Hp} {pos : Pos} {R : Hp → V → Prop} {k : Bool} (u : Ups R) (h : ET X c σ G k) (h1 : k = true → EV X a σ G R) (h2 : k = false → EV X b σ G R) : EV X (.IfExp c a b pos) σ G R := fun H s Q q =>
  we (pe_ifExp pt pe pe) (h H s _ fun G2 H2 x => by
    cases k with
    | true => exact iteT (((h1 rfl).up u x.gg) H2 x.gh _ fun v G3 H3 y r => q v G3 H3 (x.trans y) r)
    | false => exact iteF (((h2 rfl).up u x.gg) H2 x.gh _ fun v G3 H3 y r => q v G3 H3 (x.trans y) r))
theorem ups_tup (n : Nat) (d : PyData) : Ups (TupR n d) := fun G G2 v s h => by
  unfold TupR at h ⊢
  split at h
  · exact h.up s
  · exact h.up s
theorem EV.to {X : Cx} {e : Expr} {σ : St} {G : Hp} {R R2 : Hp → V → Prop} (h : EV X e σ G R) (z : ∀ G v, R G v → R2 G v) : EV X e σ G R2 := fun H s Q q => h H s Q fun v G2 H2 x r => q v G2 H2 x (z _ _ r)
theorem s_retE {X : Cx} {e : Expr} {σ : St} {G H : Hp} {pos : Pos} {D : Ends} {R : Hp → V → Prop} (h : EV X e σ G R) (s : Same G H) (q : ∀ v G2 H2, Ext G H G2 H2 → R G2 v → D.rt v H2) : WS X (.Return (some e) pos) D σ H := s_retV (h H s _ q)
theorem s_setE {X : Cx} {e : Expr} {σ : St} {G H : Hp} {p pos : Pos} {D : Ends} {R : Hp → V → Prop} {x : Str} (i : Nat) (hN : X.N.Nodup) (h : EV X e σ G R) (s : Same G H) (k : ∀ v G2 H2, Ext G H G2 H2 → R G2 v → D.nx (σ.set i (some v)) H2) (hi : X.N[i]? = some x := by rfl) (hx : Loc X.env.scope x := by first | exact .inl rfl | exact .inr rfl)
    (hs : swapsWith e (some (.Name x p)) pos.line X.env = pure false := by rfl) (hf : X.fn x = true ∨ X.env.scope.names.lookup x = some .local := by first | exact .inl rfl | exact .inr rfl) : WS X (.Assign [.Name x p] e pos) D σ H :=
  s_setV i hN (h H s _ k) hi hx hs hf
theorem ev_tupled {X : Cx} {e : Expr} {σ : St} {G : Hp} {d : PyData} {p pos : Pos} {n k : Nat} (C : CalX X CX0 "tupled" ["value"] k (SpTup n)) (hr : Room k X.A) (ha : ED X e σ G d) (hf : flatN n d = true) (hg : Gl X "tupled" := by rfl)
    (he : starEach (e :: []) X.env = (false, eval e X.env) :: starEach [] X.env := by rfl) (hpl : (backTo pos (starEach [] X.env)).any (·.1) = false := by rfl) : EV X (.Call (.Name "tupled" p) [e] [] pos) σ G (TupR n d) := fun H s Q q =>
  wcall (E := eN) C hr pasN (eds_cons ha eds_nil he H s _ fun vs G2 H2 y ps => by
    obtain ⟨v, rfl, h⟩ := ps.one
    exact ⟨G2, v, d, rfl, y.gh, h, hf, fun v2 G3 H3 x r => q v2 G3 H3 (y.trans x) r⟩) hg (by decide) he hpl
theorem isSeq_some {d : PyData} {ds : List PyData} (e : seqOf d = some ds) : isSeq d = true := by
  cases d <;> first | rfl | cases e
theorem isSeq_none {d : PyData} (e : seqOf d = none) : isSeq d = false := by
  cases d <;> first | rfl | cases e
theorem flat_in {n : Nat} {d : PyData} {ds : List PyData} (e : seqOf d = some ds) (h : flatN n d = true) : ∃ m, n = m + 1 ∧ ds.length ≤ 100000 ∧ ∀ x ∈ ds, flatN m x = true := by
  cases n with
  | zero =>
    unfold flatN at h
    rw [e] at h
    cases h
  | succ m =>
    unfold flatN at h
    rw [e] at h
    simp only [Bool.and_eq_true, decide_eq_true_eq, List.all_eq_true] at h
    exact ⟨m, rfl, h.1, h.2⟩
theorem ok_tupled {f : Addr} {fd : FuncData} (B : Bi mg) (F : Fun K "tupled" "tupled" stupled f fd) (hm : mg "tupled" = some (.ref f)) (b : Binds K fd ["value"] []) : ∀ n : Nat, FnOk P w K mg base CX0 (n + 1) f fd ["value"] (SpTup n) := by
  have key : ∀ n : Nat, (∀ m, n = m + 1 → Cal P w K mg base CX0 "tupled" ["value"] n (SpTup m)) → FnOk P w K mg base CX0 (n + 1) f fd ["value"] (SpTup n) := fun n ih => by
    refine def_ok F ctupled (fun vs H Q E h => by obtain ⟨G, v, d, rfl, _⟩ := h; rfl) fun cdv A outer s H E vs Q hr h => ?_
    obtain ⟨G, v, d, rfl, sG, hv, hf, q⟩ := h
    refine b_one (s_retE (R := TupR n d) ?_ sG q)
    refine ev_if (k := isSeq d) (ups_tup n d) (et_val (ed_isi2 B.isinstance (ed_var 0 rfl hv) B.list boot_list B.tuple boot_tuple (kit_seq d))) (fun hk => ?_) (fun hk => ?_)
    · cases e : seqOf d with
      | none =>
        rw [isSeq_none e] at hk
        cases hk
      | some ds =>
        obtain ⟨m, rfl, hl, hx⟩ := flat_in e hf
        refine (ev_tuple (ds := ds.map (tupN m)) B.tuple (ed_lc1 1 ds id (tupN m) hl rfl ctupled.nd (blk_ok ntupled (defScope stupled) _ _ (by decide +kernel)) (EI.to (ei_seq e (ed_var 0 rfl hv)) (List.map_id _).symm) ?_)).to fun G v r => ?_
        · intro x hm' G3 _ u hu s0 H0 C cl fp
          exact (ev_tupled (ih m rfl) hr (ed_var 1 rfl hu) (hx x hm')).dat fun G v r => r.dq (hx x hm')
        · unfold TupR
          rw [e]
          exact r
    · cases e : seqOf d with
      | some ds =>
        rw [isSeq_some e] at hk
        cases hk
      | none =>
        exact ev_var 0 rfl (by
          unfold TupR
          rw [e]
          exact hv)
  intro n
  induction n with
  | zero => exact key 0 fun m z => by cases z
  | succ n ih =>
    refine key (n + 1) fun m z => ?_
    cases z
    exact cal F hm b ih
/-! ### masks_table, may_table -/
def kindsT (ks : List (Str × List Str)) : List (Str × PyData) := ks.map fun e => (e.1, .tuple (e.2.map .str))
/-- the data of a book: its kinds, in whatever lists and tuples -/
def IsBook (b : PyData) (ks : List (Str × List Str)) : Prop := ∃ x y, seqOf b = some [x, y] ∧ flatN 3 y = true ∧ tupN 3 y = .tuple ((kindsT ks).map rowD)
def SpMasks : Sp := fun vs H Q _ => ∃ G v b ks, vs = [v] ∧ Same G H ∧ Dq G v b ∧ IsBook b ks ∧ (ks.map (·.1)).Nodup ∧ ∀ v2 G2 H2, Ext G H G2 H2 → Tab (kindsT ks) G2 v2 → Q v2 H2
theorem tup_rows {y : PyData} {t : List (Str × PyData)} {G : Hp} {v : V} (h : tupN 3 y = .tuple (t.map rowD)) (r : TupR 3 y G v) : FrT (t.map rowD) G v := by
  unfold TupR at r
  unfold tupN at h
  cases e : seqOf y with
  | none =>
    rw [e] at h
    dsimp only at h
    subst h
    cases e
  | some ds =>
    rw [e] at h r
    dsimp only at h r
    injection h with h
    rw [h] at r
    exact r
theorem ok_masks_table {f : Addr} {fd : FuncData} (B : Bi mg) (F : Fun K "masks_table" "masks_table" smasks_table f fd) (T : Cal P w K mg base CX0 "tupled" ["value"] 4 (SpTup 3)) : FnOk P w K mg base CX0 5 f fd ["book"] SpMasks := by
  refine def_ok F cmasks_table (fun vs H Q E h => by obtain ⟨G, v, b, ks, rfl, _⟩ := h; rfl) fun cdv A outer s H E vs Q hr h => ?_
  obtain ⟨G, v, b, ks, rfl, sG, hv, ⟨x, y, e1, e2, e3⟩, nd, q⟩ := h
  refine b_one (s_retE ?_ sG q)
  exact ev_dict rfl (by unfold kindsT; rw [List.map_map]; exact nd) B.dict ((ev_tupled T hr (ed_ix (i := 1) e1 rfl (ed_var 0 rfl hv) ed_int) e2).to fun G v r => tup_rows e3 r)
end
end Wk
set_option maxHeartbeats 4000000
namespace Wk
open PySem PySem.Spec PyProof.Rows L2
def maskOf (ks : List (Str × List Str)) (k : Str) : List Str := ((ks.find? fun e => decide (e.1 = k)).map (·.2)).getD []
def kindOf (line : List (Str × Str)) (t : Str) : Str := ((line.find? fun e => decide (e.1 = t)).map (·.2)).getD Str.empty
/-- where a task may stand -/
def mayOf (ks : List (Str × List Str)) (line : List (Str × Str)) (t : Str) : List Str := maskOf ks (kindOf line t)
def mayT (ks : List (Str × List Str)) (line : List (Str × Str)) : List (Str × PyData) := line.map fun e => (e.1, .tuple ((maskOf ks e.2).map .str))
theorem pget_kinds : ∀ {ks : List (Str × List Str)} {k : Str}, k ∈ ks.map (·.1) → pget (kindsT ks) k = some (.tuple ((maskOf ks k).map .str))
  | [], _, h => nomatch h
  | (x, m) :: ks, k, h => by
    by_cases e : x = k
    · subst e
      unfold kindsT maskOf
      simp [pget, List.find?_cons]
    · rw [List.map_cons, List.mem_cons] at h
      have h' : k ∈ ks.map (·.1) := h.resolve_left fun z => e z.symm
      have ih := pget_kinds h'
      unfold kindsT maskOf at ih ⊢
      rw [List.map_cons, pget_miss e, ih]
      simp [List.find?_cons, e]
theorem pget_may {ks : List (Str × List Str)} : ∀ {line : List (Str × Str)} {t : Str}, t ∈ line.map (·.1) → pget (mayT ks line) t = some (.tuple ((mayOf ks line t).map .str))
  | [], _, h => nomatch h
  | (x, m) :: line, k, h => by
    by_cases e : x = k
    · subst e
      unfold mayT mayOf kindOf
      simp [pget, List.find?_cons]
    · rw [List.map_cons, List.mem_cons] at h
      have h' : k ∈ line.map (·.1) := h.resolve_left fun z => e z.symm
      have ih := pget_may h' (ks := ks)
      unfold mayT mayOf kindOf at ih ⊢
      rw [List.map_cons, pget_miss e, ih]
      simp [List.find?_cons, e]
theorem may_keys (ks : List (Str × List Str)) (line : List (Str × Str)) : (mayT ks line).map (·.1) = line.map (·.1) := by
  unfold mayT
  rw [List.map_map]
  rfl
/-- rows of two names each, in whatever lists and tuples -/
def IsLine (l : PyData) (line : List (Str × Str)) : Prop := ∃ rows : List (PyData × Str × Str), seqOf l = some (rows.map (·.1)) ∧ line = rows.map (·.2) ∧ ∀ r ∈ rows, seqOf r.1 = some [.str r.2.1, .str r.2.2]
structure Fair (ks : List (Str × List Str)) (line : List (Str × Str)) : Prop where
  kinds : (ks.map (·.1)).Nodup
  tasks : (line.map (·.1)).Nodup
  known : ∀ e ∈ line, e.2 ∈ ks.map (·.1)
  size : line.length ≤ 1000
section
variable {P : Program} {w : World} {K : PySem.W.Frag} {mg : Str → Option Value} {base : Heap}
def SpMay : Sp := fun vs H Q _ => ∃ G v1 v2 b l ks line, vs = [v1, v2] ∧ Same G H ∧ Dq G v1 b ∧ Dq G v2 l ∧ IsBook b ks ∧ IsLine l line ∧ Fair ks line ∧ ∀ v G2 H2, Ext G H G2 H2 → Tab (mayT ks line) G2 v → Q v H2
theorem ok_may_table {f : Addr} {fd : FuncData} (B : Bi mg) (F : Fun K "may_table" "may_table" smay_table f fd) (M : Cal P w K mg base CX0 "masks_table" ["book"] 5 SpMasks) : FnOk P w K mg base CX0 6 f fd ["book", "ready"] SpMay := by
  refine def_ok F cmay_table (fun vs H Q E h => by obtain ⟨G, v1, v2, b, l, ks, line, rfl, _⟩ := h; rfl) fun cdv A outer s H E vs Q hr h => ?_
  obtain ⟨G, v1, v2, b, l, ks, line, rfl, sG, h1, h2, ib, ⟨rows, e1, rfl, e3⟩, fair, q⟩ := h
  refine b_cons (s_setE (R := Tab (kindsT ks)) 2 cmay_table.nd (fun H s Q q => wcall (E := eN) M hr pasN (eds_cons (ed_var 0 rfl h1) eds_nil rfl H s _ fun vs G2 H2 y ps => ?_)) sG fun v G2 H2 y hT => ?_)
  · obtain ⟨v, rfl, h⟩ := ps.one
    exact ⟨G2, v, b, ks, rfl, y.gh, h, ib, fair.kinds, fun v2 G3 H3 x r => q v2 G3 H3 (y.trans x) r⟩
  · refine b_one (s_retE (R := Tab (mayT ks (rows.map (·.2)))) ?_ y.gh fun v G3 H3 y3 r => q v G3 H3 (y.trans y3) r)
    have hlen : rows.length ≤ 1000 := by simpa using fair.size
    refine (ev_dc2 3 4 rows (fun r => .str r.2.1) (fun r => .str r.2.2) (·.1) (fun r => r.2.1) (fun r => .tuple ((maskOf ks r.2.2).map .str)) e3 (by omega) (by have := fair.tasks; rw [List.map_map] at this; exact this) rfl cmay_table.nd (blk_ok nmay_table (defScope smay_table) _ _ (by decide +kernel)) (ei_seq e1 (ed_var 1 rfl (h2.up y.gg))) ?_ ?_).to fun G v r => ?_
    · intro r _ G4 _ u u2 hu hu2 s0 H0 C cl fp
      exact ed_var 3 rfl hu
    · intro r hm G4 s4 u u2 hu hu2 s0 H0 C cl fp
      refine ed_dget (t := kindsT ks) (k := r.2.2) (Nat.lt_of_le_of_lt (Nat.add_le_add_left (by decide : 1 ≤ 64) _) hr.units) (ev_var 2 rfl (hT.up s4)) (ed_var 4 rfl hu2) (pget_kinds (fair.known r.2 (List.mem_map.mpr ⟨r, hm, rfl⟩)))
    · unfold mayT
      rw [List.map_map]
      exact r
end
end Wk
set_option maxHeartbeats 4000000
namespace Wk
open PySem PySem.Spec PyProof.Rows L2
theorem hu1 {A : Around} {k : Nat} (hr : Room k A) : A.units + 1 < cLine := Nat.lt_of_le_of_lt (Nat.add_le_add_left (by decide : 1 ≤ 64) _) hr.units
theorem ed_din {X : Cx} {a b : Expr} {σ : St} {G : Hp} {pos : Pos} {t : List (Str × PyData)} {k : Str} (hu : X.A.units + 1 < cLine) (ha : ED X a σ G (.str k)) (hb : EV X b σ G (Tab t)) (hm : behindInMarks .In b = false := by rfl) : ED X (.Compare a [.In] [b] pos) σ G (.bool (pget t k).isSome) := fun H s Q q =>
  we (pe_cmp (pc_din hu pe pe) hm) (ha H s _ fun v G2 H2 y p => (hb.up (ups_tab t) y.gg) H2 y.gh _ fun w G3 H3 y2 r => by
    cases p
    obtain ⟨l, kvs, rfl, h1, h2⟩ := r
    refine ⟨l, _, rfl, DGet.k (k := .inr k) (y2.gh _ _ h1), ?_⟩
    have e : (valV kvs (Sum.inr k)).isSome = (pget t k).isSome := by
      cases z : pget t k with
      | none =>
        rw [h2.none z]
        rfl
      | some d =>
        obtain ⟨u, e1, _⟩ := h2.get z
        rw [e1]
        rfl
    rw [e]
    exact q _ G3 H3 (y.trans y2) (.bl _))
theorem ev_call {X : Cx} {CX : CXT} {x : Str} {ps : List Str} {k : Nat} {sp : Sp} {E : XK} {R : Hp → V → Prop} {e : Expr} {es : List Expr} {σ : St} {G : Hp} {ds : List PyData} {p pos : Pos} (C : CalX X CX x ps k sp) (hr : Room k X.A) (hx : Passes CX X E) (ha : EDs X (e :: es) σ G ds)
    (h : ∀ G2 H2 vs (Q : VK), Same G G2 → Same G2 H2 → DqAll G2 vs ds → (∀ v G3 H3, Ext G2 H2 G3 H3 → R G3 v → Q v H3) → sp vs H2 Q E) (hg : Gl X x := by rfl) (hdb : (x == ("__debug__" : Str)) = false := by decide)
    (he : starEach (e :: es) X.env = (false, eval e X.env) :: starEach es X.env := by rfl) (hpl : (backTo pos (starEach es X.env)).any (·.1) = false := by rfl) : EV X (.Call (.Name x p) (e :: es) [] pos) σ G R := fun H s Q q =>
  wcall (E := E) C hr hx (ha H s _ fun vs G2 H2 y ps => h G2 H2 vs Q y.gg y.gh ps fun v G3 H3 z r => q v G3 H3 (y.trans z) r) hg hdb he hpl
theorem all_yes {α : Type} (xs : List α) : (xs.map fun _ => true).all id = true := by simp
section
variable {P : Program} {w : World} {K : PySem.W.Frag} {mg : Str → Option Value} {base : Heap}
abbrev CalN (P : Program) (w : World) (K : PySem.W.Frag) (mg : Str → Option Value) (base : Heap) (x : Str) (ps : List Str) (k : Nat) (sp : Sp) : Prop := Cal P w K mg base CX0 x ps k sp
def NmPairs (prs : List (Str × Str)) : Prop := ∀ p ∈ prs, Nm p.1 ∧ Nm p.2
def RAre (ds : List PyData) (d : PyData) : Prop := ∃ prs : List (Str × Str), ds = [.tuple (prs.map prD)] ∧ NmPairs prs ∧ prs.length ≤ 1000 ∧ d = .bool true
theorem ok_are_names {f : Addr} {fd : FuncData} (B : Bi mg) (F : Fun K "are_names" "are_names" sare_names f fd) (C1 : CalN P w K mg base "is_pair" ["value"] 1 (PureSp RPair)) (C2 : CalN P w K mg base "is_name" ["value"] 1 (PureSp RName)) : FnOk P w K mg base CX0 2 f fd ["thing"] (PureSp RAre) := by
  refine pure_ok F care_names (fun ds d h => by obtain ⟨a, rfl, _⟩ := h; rfl) fun cdv A outer s H E G vs ds d Q hr sG hv hR q => ?_
  obtain ⟨prs, rfl, hn, hz, rfl⟩ := hR
  obtain ⟨v, rfl, hv1⟩ := hv.one
  refine b_cons (s_if (k := false) (ET.to (EW.t (ew_or (et_not (et_val (ed_isi B.isinstance (ed_var 0 rfl hv1) B.tuple boot_tuple (show kitB "tuple" "tuple" = some true by decide +kernel)))) fun _ => ew_or1 (et_not (et_val (ed_all (bs := prs.map fun _ => true) rfl B.all ?_))))) ?_) sG (fun h => by cases h) fun _ G1 H1 y => b_nil ?_)
  · refine ED.to (ed_lc1 1 prs prD (fun _ => .bool true) (by omega) rfl care_names.nd (blk_ok nare_names (defScope sare_names) _ _ (by decide +kernel)) (ei_seq rfl (ed_var 0 rfl hv1)) ?_) (by rw [List.map_map]; rfl)
    intro p _ G3 _ u hu s0 H0 C cl fp
    exact ed_call (E := eN) C1 hr pasN (eds_cons (ed_var 1 rfl hu) eds_nil) ⟨_, _, rfl, rfl⟩
  · rw [all_yes]
    rfl
  · have hv2 := hv1.up y.gg
    refine b_one (s_ret ?_ y.gh (RD.ext q y))
    refine ED.to (ed_all (bs := prs.map fun _ => true) rfl B.all ?_) (by rw [all_yes])
    refine ED.to (ed_lc2 2 3 prs (fun p => .str p.1) (fun p => .str p.2) prD (fun _ => .bool true) (fun _ _ => rfl) (by omega) rfl care_names.nd (blk_ok nare_names (defScope sare_names) _ _ (by decide +kernel)) (ei_seq rfl (ed_var 0 rfl hv2)) ?_) (by rw [List.map_map]; rfl)
    intro p hp G3 _ u u2 hu hu2 s0 H0 C cl fp
    refine ed_and (k := true) (ed_call (E := eN) C2 hr pasN (eds_cons (ed_var 2 rfl hu) eds_nil) ⟨_, rfl, (hn p hp).1, rfl⟩) (fun _ => ed_one ?_) (fun h => by cases h)
    exact ed_call (E := eN) C2 hr pasN (eds_cons (ed_var 3 rfl hu2) eds_nil) ⟨_, rfl, (hn p hp).2, rfl⟩
/-! ### is_seating -/
structure Seats (ks : List (Str × List Str)) (line : List (Str × Str)) (prs : List (Str × Str)) : Prop where
  nm : NmPairs prs
  asc : Asc (prs.map (·.1))
  may : ∀ p ∈ prs, p.2 ∈ line.map (·.1) ∧ p.1 ∈ mayOf ks line p.2
  nd : (prs.map (·.2)).Nodup
  sz : prs.length ≤ 1000
def RSeat (ds : List PyData) (d : PyData) : Prop := ∃ b l ks line prs, ds = [b, l, .tuple (prs.map prD)] ∧ IsBook b ks ∧ IsLine l line ∧ Fair ks line ∧ Seats ks line prs ∧ d = .bool true
theorem three {G : Hp} {vs : List V} {d d' d'' : PyData} (h : DqAll G vs [d, d', d'']) : ∃ v v' v'', vs = [v, v', v''] ∧ Dq G v d ∧ Dq G v' d' ∧ Dq G v'' d'' := by
  cases h with
  | cons h1 h2 =>
    obtain ⟨v', v'', e, h3, h4⟩ := h2.two
    subst e
    exact ⟨_, _, _, rfl, h1, h3, h4⟩
theorem four {G : Hp} {vs : List V} {d d' d'' d3 : PyData} (h : DqAll G vs [d, d', d'', d3]) : ∃ v v' v'' v3, vs = [v, v', v'', v3] ∧ Dq G v d ∧ Dq G v' d' ∧ Dq G v'' d'' ∧ Dq G v3 d3 := by
  cases h with
  | cons h1 h2 =>
    obtain ⟨v', v'', v3, e, h3, h4, h5⟩ := three h2
    subst e
    exact ⟨_, _, _, _, rfl, h1, h3, h4, h5⟩
theorem ok_is_seating {f : Addr} {fd : FuncData} (B : Bi mg) (F : Fun K "is_seating" "is_seating" sis_seating f fd) (C1 : CalN P w K mg base "are_names" ["thing"] 6 (PureSp RAre)) (C2 : CalN P w K mg base "is_rising" ["row"] 6 (PureSp RRise))
    (C3 : CalN P w K mg base "may_table" ["book", "ready"] 6 SpMay) (C4 : CalN P w K mg base "set_of" ["some"] 6 (PureSp RSetOf)) : FnOk P w K mg base CX0 7 f fd ["book", "ready", "thing"] (PureSp RSeat) := by
  refine pure_ok F cis_seating (fun ds d h => by obtain ⟨b, l, ks, line, prs, rfl, _⟩ := h; rfl) fun cdv A outer s H E G vs ds d Q hr sG hv hR q => ?_
  obtain ⟨b, l, ks, line, prs, rfl, ib, il, fair, st, rfl⟩ := hR
  obtain ⟨v1, v2, v3, rfl, h1, h2, h3⟩ := three hv
  have sz := st.sz
  refine b_cons (s_if (k := false) (ET.to (EW.t (ew_or (et_not (et_val (ed_call (d := .bool true) (E := eN) C1 hr pasN (eds_cons (ed_var 2 rfl h3) eds_nil) ⟨prs, rfl, st.nm, sz, rfl⟩))) fun _ => ew_or1 (et_not (et_val (ed_call (d := .bool true) (ds := [.list ((prs.map (·.1)).map .str)]) (E := eN) C2 hr pasN (eds_cons ?_ eds_nil) ⟨_, rfl, st.asc, by simpa using sz, rfl⟩))))) rfl) sG (fun h => by cases h) fun _ G1 H1 y => b_nil ?_)
  · refine ED.to (ed_lc2 4 5 prs (fun p => .str p.1) (fun p => .str p.2) prD (fun p => .str p.1) (fun _ _ => rfl) (by omega) rfl cis_seating.nd (blk_ok nis_seating (defScope sis_seating) _ _ (by decide +kernel)) (ei_seq rfl (ed_var 2 rfl h3)) ?_) (by rw [List.map_map]; rfl)
    intro p hp G3 _ u u2 hu hu2 s0 H0 C cl fp
    exact ed_var 4 rfl hu
  have g1 := h1.up y.gg
  have g2 := h2.up y.gg
  have g3 := h3.up y.gg
  refine b_cons (s_setE (R := Tab (mayT ks line)) 3 cis_seating.nd (ev_call (E := eN) C3 hr pasN (eds_cons (ed_var 0 rfl g1) (eds_cons (ed_var 1 rfl g2) eds_nil)) fun G2 H2 vs Q _ s2 ps q2 => ?_) y.gh fun v4 G2 H2 y2 hT => ?_)
  · obtain ⟨u1, u2, rfl, k1, k2⟩ := ps.two
    exact ⟨G2, u1, u2, b, l, ks, line, rfl, s2, k1, k2, ib, il, fair, q2⟩
  have f3 := g3.up y2.gg
  refine b_cons (s_if (k := false) (ET.to (et_not (et_val (ed_all (bs := prs.map fun _ => true) rfl B.all ?_))) (by rw [all_yes]; rfl)) y2.gh (fun h => by cases h) fun _ G3 H3 y3 => b_nil ?_)
  · refine ED.to (ed_lc2 4 5 prs (fun p => .str p.1) (fun p => .str p.2) prD (fun _ => .bool true) (fun _ _ => rfl) (by omega) rfl cis_seating.nd (blk_ok nis_seating (defScope sis_seating) _ _ (by decide +kernel)) (ei_seq rfl (ed_var 2 rfl f3)) ?_) (by rw [List.map_map]; rfl)
    intro p hp G4 s4 u u2 hu hu2 s0 H0 C cl fp
    have pg := pget_may (ks := ks) (st.may p hp).1
    refine ed_and (k := true) (ED.to (ed_din (t := mayT ks line) (hu1 hr) (ed_var 5 rfl hu2) (ev_var 3 rfl (hT.up s4))) (by rw [pg]; rfl)) (fun _ => ed_one ?_) (fun h => by cases h)
    exact ED.to (ed_in rfl (ed_var 4 rfl hu) (ed_dget (t := mayT ks line) (hu1 hr) (ev_var 3 rfl (hT.up s4)) (ed_var 5 rfl hu2) pg)) (by rw [decide_eq_true (st.may p hp).2])
  have e3 := f3.up y3.gg
  refine b_one (s_ret ?_ y3.gh (RD.ext (RD.ext (RD.ext q y) y2) y3))
  refine ED.to (ed_eqI (i := ((sSort (prs.map (·.2))).map PyData.str).length) (j := (prs.map prD).length) (ed_len rfl B.len (ed_call (d := .tuple ((sSort (prs.map (·.2))).map .str)) (ds := [.list ((prs.map (·.2)).map .str)]) (E := eN) C4 hr pasN (eds_cons ?_ eds_nil) ⟨_, rfl, st.nd, by simpa using sz, rfl⟩)) (ed_len rfl B.len (ed_var 2 rfl e3))) ?_
  · refine ED.to (ed_lc2 4 5 prs (fun p => .str p.1) (fun p => .str p.2) prD (fun p => .str p.2) (fun _ _ => rfl) (by omega) rfl cis_seating.nd (blk_ok nis_seating (defScope sis_seating) _ _ (by decide +kernel)) (ei_seq rfl (ed_var 2 rfl e3)) ?_) (by rw [List.map_map]; rfl)
    intro p hp G4 _ u u2 hu hu2 s0 H0 C cl fp
    exact ed_var 5 rfl hu2
  · rw [List.length_map, (sSort_perm _).length_eq, List.length_map, List.length_map]
    simp
end
end Wk
set_option maxHeartbeats 4000000
/-! seat, matched. -/
namespace Km
variable {C T : Type} [DecidableEq C] [DecidableEq T]
theorem loop_nd (rec : List (C × T) → T → List C → Res C T) (hrec : ∀ f x tr, tr.Nodup → (rec f x tr).2.2.Nodup) (t : T) : ∀ (cs : List C) (f : List (C × T)) (tr : List C), tr.Nodup → (loopM rec t cs f tr).2.2.Nodup
  | [], f, tr, h => h
  | c :: cs, f, tr, h => by
    unfold loopM
    by_cases hc : c ∈ tr
    · rw [if_pos hc]
      exact loop_nd rec hrec t cs f tr h
    · rw [if_neg hc]
      have h2 : (tr ++ [c]).Nodup := List.nodup_append.mpr ⟨h, by simp, fun a ha b hb e => by
        rw [List.mem_singleton] at hb
        subst hb
        subst e
        exact hc ha⟩
      cases e : get f c with
      | none => exact h2
      | some x =>
        have h3 := hrec f x (tr ++ [c]) h2
        dsimp only
        rcases e2 : rec f x (tr ++ [c]) with ⟨b, f2, tr2⟩
        rw [e2] at h3
        cases b with
        | true => exact h3
        | false => exact loop_nd rec hrec t cs f2 tr2 h3
theorem seat_nd (mask : T → List C) : ∀ (n : Nat) (f : List (C × T)) (t : T) (tr : List C), tr.Nodup → (seatM mask n f t tr).2.2.Nodup
  | 0, f, t, tr, h => loop_nd _ (fun _ _ _ h => h) t _ f tr h
  | n + 1, f, t, tr, h => loop_nd _ (fun f x tr h => seat_nd mask n f x tr h) t _ f tr h
theorem loop_cons (rec : List (C × T) → T → List C → Res C T) (t : T) (c : C) (cs : List C) (f : List (C × T)) (tr : List C) : loopM rec t (c :: cs) f tr = if c ∈ tr then loopM rec t cs f tr
    else match get f c with
      | none => (true, put f c t, tr ++ [c])
      | some x => match rec f x (tr ++ [c]) with
        | (true, f2, tr2) => (true, put f2 c t, tr2)
        | (false, f2, tr2) => loopM rec t cs f2 tr2 := by
  conv => lhs; unfold loopM
  try rfl
def recN (mask : T → List C) : Nat → List (C × T) → T → List C → Res C T
  | 0 => fun f _ tr => (false, f, tr)
  | n + 1 => seatM mask n
theorem seat_loop (mask : T → List C) (n : Nat) (f : List (C × T)) (t : T) (tr : List C) : seatM mask n f t tr = loopM (recN mask n) t (mask t) f tr := by
  cases n <;> rfl
end Km
namespace Wk
open PySem PySem.Spec PyProof.Rows L2 Km
/-- found, as it stands -/
def fD (f : List (Str × Str)) : List (Key × V) := f.map fun p => (.inr p.1, .str p.2)
theorem fD_get (f : List (Str × Str)) (c : Str) : valV (fD f) (.inr c) = (Km.get f c).map V.str := by
  induction f with
  | nil => rfl
  | cons p f ih =>
    rw [Km.get_cons]
    by_cases e : p.1 = c
    · rw [if_pos e]
      exact valV_pos (p := ((Sum.inr p.1 : Key), V.str p.2)) (by rw [e])
    · rw [if_neg e]
      exact (valV_neg (p := ((Sum.inr p.1 : Key), V.str p.2)) (fun z => e (by injection z))).trans ih
theorem fD_put (f : List (Str × Str)) (c t : Str) : putK (fD f) (.inr c) (.str t) = fD (Km.put f c t) := by
  unfold putK Km.put
  rw [valV_any, fD_get, Km.any_iff, Option.isSome_map]
  by_cases h : (Km.get f c).isSome = true
  · rw [if_pos h, if_pos h]
    unfold fD
    rw [List.map_map, List.map_map]
    refine List.map_congr_left fun p _ => ?_
    simp only [Function.comp_apply]
    by_cases e : p.1 = c
    · simp [e]
    · rw [if_neg e, if_neg (fun z => e (by injection z))]
  · rw [if_neg h, if_neg h]
    unfold fD
    rw [List.map_append]
    rfl
/-- all else stands -/
def But (fa ta : Addr) (H H2 : Hp) : Prop := ∀ b o, b ≠ fa → b ≠ ta → H b = some o → H2 b = some o
theorem But.trans {fa ta : Addr} {H H2 H3 : Hp} (a : But fa ta H H2) (b : But fa ta H2 H3) : But fa ta H H3 := fun c o h1 h2 e => b c o h1 h2 (a c o h1 h2 e)
theorem But.same {fa ta : Addr} {G H H2 : Hp} (s : Same G H) (h1 : G fa = none) (h2 : G ta = none) (a : But fa ta H H2) : Same G H2 := fun b o e => a b o (ne_of_none e h1) (ne_of_none e h2) (s b o e)
theorem But.ext {fa ta : Addr} {G H G2 H2 : Hp} (x : Ext G H G2 H2) : But fa ta H H2 := fun b o _ _ e => x.hh b o e
section
variable {X : Cx} {σ : St} {H : Hp} {p p2 pos : Pos}
theorem w_var (i : Nat) {x : Str} {v : V} {Q : VK} (hs : σ[i]? = some (some v)) (q : Q v H) (hN : X.N[i]? = some x := by rfl)
    (hv : Vis X.env.scope x := by first | exact Or.inl rfl | exact Or.inr (Or.inl rfl) | exact Or.inr (Or.inr rfl)) (hd : (x == ("__debug__" : Str)) = false := by decide)
    (hcd : (x == ("__classdict__" : Str)) = false := by decide) : WE X (.Name x pos) σ H Q := we (pe_var hN hv hd hcd) ⟨v, hs, q⟩
theorem wt_niL {a b : Expr} {c : Str} {ta : Addr} {tr : List Str} {Q : Bool → Hp → Prop} (ha : ∀ Q : VK, Q (.str c) H → WE X a σ H Q) (hb : ∀ Q : VK, Q (.ref ta) H → WE X b σ H Q) (ht : H ta = some (.lst (tr.map .str))) (q : Q (!decide (c ∈ tr)) H) (hm : behindInMarks .NotIn b = false := by rfl) :
    WT X (.Compare a [.NotIn] [b] pos) σ H Q := wt (pt_cmpR op_notIn_seq pe pe hm) (ha _ (hb _ ⟨ta, _, rfl, .inl (.of ht), rfl, flats tr, by
      rw [inV_strs]
      exact ⟨_, rfl, q⟩⟩))
theorem wt_niD {a b : Expr} {c : Str} {fa : Addr} {f : List (Str × Str)} {Q : Bool → Hp → Prop} (hu : X.A.units + 1 < cLine) (ha : ∀ Q : VK, Q (.str c) H → WE X a σ H Q) (hb : ∀ Q : VK, Q (.ref fa) H → WE X b σ H Q) (ht : H fa = some (.dK (fD f))) (q : Q (!(Km.get f c).isSome) H) (hm : behindInMarks .NotIn b = false := by rfl) :
    WT X (.Compare a [.NotIn] [b] pos) σ H Q := wt (pt_cmp (pc_dnotin hu pe pe) hm) (ha _ (hb _ ⟨fa, _, rfl, DGet.k (k := .inr c) ht, by
      rw [fD_get, Option.isSome_map]
      exact ⟨_, rfl, q⟩⟩))
end
section
variable {X : Cx} {σ : St} {H : Hp} {p p2 pos pos' pos2 : Pos}
/-- found[cpu] = task; return True -/
theorem put_ret {v o i : Expr} {j : Nat} {c t : Str} {fa : Addr} {f : List (Str × Str)} {D : Ends} {cp : Pos} (hu : X.A.units + 1 < cLine) (hv : ∀ Q : VK, Q (.str t) H → WE X v σ H Q) (ho : ∀ Q : VK, Q (.ref fa) H → WE X o σ H Q) (hi : ∀ Q : VK, Q (.str c) H → WE X i σ H Q) (hf : H fa = some (.dK (fD f))) (hl : f.length < sizeLine)
    (q : D.rt (.bl true) (upd H fa (.dK (fD (put f c t))))) (hs : swapsWith v (some (.Subscript o i pos')) pos.line X.env = pure false := by rfl) : WB X [.Assign [.Subscript o i pos'] v pos, .Return (some (.Constant (.bool true) j cp)) pos2] D σ H := by
  refine b_cons (ws (ps_dput hu pe pe pe hs) (hv _ (ho _ (hi _ ⟨fa, _, rfl, DPut.k (k := .inr c) hf (by unfold fD; rw [List.length_map]; exact hl), ?_⟩))))
  rw [fD_put]
  exact b_one (s_retV (we pe_bl q))
end
section
variable {P : Program} {w : World} {K : PySem.W.Frag} {mg : Str → Option Value} {base : Heap}
/-- what is known while seats are sought -/
structure Seek (ks : List (Str × List Str)) (line : List (Str × Str)) (U : List Str) (n : Nat) (f : List (Str × Str)) (tr : List Str) : Prop where
  fits : Fits (mayOf ks line) f
  own : ∀ p ∈ f, p.2 ∈ line.map (·.1)
  nd : tr.Nodup
  inU : ∀ c ∈ tr, c ∈ U
  room : room U tr ≤ n
structure Ground (ks : List (Str × List Str)) (line : List (Str × Str)) (U : List Str) : Prop where
  all : ∀ t, ∀ c ∈ mayOf ks line t, c ∈ U
  sz : U.length ≤ 1000
theorem Seek.lt {ks : List (Str × List Str)} {line : List (Str × Str)} {U : List Str} {n : Nat} {f : List (Str × Str)} {tr : List Str} (g : Ground ks line U) (S : Seek ks line U n f tr) : tr.length ≤ 1000 ∧ f.length ≤ 1000 := by
  refine ⟨Nat.le_trans (Km.nodup_len S.nd S.inU) g.sz, ?_⟩
  have h := Km.nodup_len S.fits.nd (fun c hc => by
    obtain ⟨p, hp, rfl⟩ := List.mem_map.mp hc
    exact g.all _ _ (S.fits.may p hp)) (f := U)
  rw [List.length_map] at h
  exact Nat.le_trans h g.sz
def SpSeat (n : Nat) : Sp := fun vs H Q _ => ∃ G tv fa ta t ks line U f tr, vs = [tv, .ref fa, .str t, .ref ta] ∧ Same G H ∧ Tab (mayT ks line) G tv ∧ G fa = none ∧ G ta = none ∧ fa ≠ ta ∧ H fa = some (.dK (fD f)) ∧ H ta = some (.lst (tr.map .str)) ∧
  t ∈ line.map (·.1) ∧ Ground ks line U ∧ Seek ks line U n f tr ∧
  ∀ H2, H2 fa = some (.dK (fD (seatM (mayOf ks line) n f t tr).2.1)) → H2 ta = some (.lst ((seatM (mayOf ks line) n f t tr).2.2.map .str)) → But fa ta H H2 → Q (.bl (seatM (mayOf ks line) n f t tr).1) H2
theorem ok_seat {f : Addr} {fd : FuncData} (B : Bi mg) (F : Fun K "seat" "seat" sseat f fd) (hm : mg "seat" = some (.ref f)) (b : Binds K fd ["table", "found", "task", "tried"] []) : ∀ n : Nat, FnOk P w K mg base CX0 (n + 1) f fd ["table", "found", "task", "tried"] (SpSeat n) := by
  have key : ∀ n : Nat, (∀ m, n = m + 1 → Cal P w K mg base CX0 "seat" ["table", "found", "task", "tried"] n (SpSeat m)) → FnOk P w K mg base CX0 (n + 1) f fd ["table", "found", "task", "tried"] (SpSeat n) := fun n ih => by
    refine def_ok F cseat (fun vs H Q E h => by obtain ⟨G, tv, fa, ta, t, ks, line, U, f, tr, rfl, _⟩ := h; rfl) fun cdv A outer s H E vs Q hr h => ?_
    obtain ⟨G, tv, fa, ta, t, ks, line, U, f, tr, rfl, sG, hT, gf, gt, hne, hf, ht, htl, gr, sk, q⟩ := h
    generalize hrec : recN (mayOf ks line) n = rec
    have er : seatM (mayOf ks line) n f t tr = loopM rec t (mayOf ks line t) f tr := by rw [seat_loop, hrec]
    rw [er] at q
    have hu := hu1 hr
    refine b_cons (s_for (G := G) (mayOf ks line t) PyData.str (fun c G σ σ2 => ∃ v, Dq G v (.str c) ∧ σ2 = σ.set 4 (some v)) (fun i σ' G' H' => (∃ x, σ' = [some tv, some (.ref fa), some (.str t), some (.ref ta), x]) ∧ Same G' H' ∧ G' fa = none ∧ G' ta = none ∧ But fa ta H H' ∧
      ∃ f' tr', H' fa = some (.dK (fD f')) ∧ H' ta = some (.lst (tr'.map .str)) ∧ Seek ks line U n f' tr' ∧ loopM rec t (mayOf ks line t) f tr = loopM rec t ((mayOf ks line t).drop i) f' tr')
      PassesOwn.never rfl (ei_seq rfl (ed_dget hu (ev_var 0 rfl hT) (ed_var 2 rfl (.str t)) (pget_may htl))) sG (fun G1 H1 y => ?_) (fun i σ' G' H' h => h.2.1) (fun c hc G3 s3 σ' => bnd_name 4 cseat.nd) ?_ ?_)
    · have nf : H fa ≠ none := by rw [hf]; exact fun z => by cases z
      have nt : H ta ≠ none := by rw [ht]; exact fun z => by cases z
      exact ⟨⟨none, rfl⟩, y.gh, y.out _ nf gf, y.out _ nt gt, But.ext y, f, tr, y.hh _ _ hf, y.hh _ _ ht, sk, rfl⟩
    · rintro i c σ' G' H' G3 H3 σ2 hi ⟨⟨x0, rfl⟩, sg, g1, g2, bt, f', tr', hf', ht', sk', eq⟩ s1 y ⟨v, hv, rfl⟩
      cases hv
      have hlt : i < (mayOf ks line t).length := (List.getElem?_eq_some_iff.mp hi).1
      have hcm : c ∈ mayOf ks line t := List.mem_of_getElem? hi
      have dr : (mayOf ks line t).drop i = c :: (mayOf ks line t).drop (i + 1) := by
        rw [List.drop_eq_getElem_cons hlt]
        congr 1
        have := List.getElem?_eq_getElem hlt
        rw [hi] at this
        exact (Option.some.inj this).symm
      rw [dr, loop_cons] at eq
      have nf : H' fa ≠ none := by rw [hf']; exact fun z => by cases z
      have nt : H' ta ≠ none := by rw [ht']; exact fun z => by cases z
      have k1 := y.out _ nf g1
      have k2 := y.out _ nt g2
      have hf3 := y.hh _ _ hf'
      have ht3 := y.hh _ _ ht'
      have bt3 : But fa ta H H3 := bt.trans (But.ext y)
      obtain ⟨lt1, lt2⟩ := sk'.lt gr
      refine b_one (s_ifV (wt_niL (fun Q h => w_var 4 rfl h) (fun Q h => w_var 3 rfl h) ht3 ?_))
      by_cases hc : c ∈ tr'
      · rw [if_neg (by simp [hc])]
        rw [if_pos hc] at eq
        exact b_nil ⟨G3, ⟨⟨_, rfl⟩, y.gh, k1, k2, bt3, f', tr', hf3, ht3, sk', eq⟩, Same.refl _⟩
      · rw [if_pos (by simp [hc])]
        rw [if_neg hc] at eq
        have hcU : c ∈ U := gr.all t c hcm
        have nd2 : (tr' ++ [c]).Nodup := List.nodup_append.mpr ⟨sk'.nd, by simp, fun a ha b hb e => by
          rw [List.mem_singleton] at hb
          subst hb
          subst e
          exact hc ha⟩
        have in2 : ∀ d ∈ tr' ++ [c], d ∈ U := fun d hd => by
          rcases List.mem_append.mp hd with hd | hd
          · exact sk'.inU d hd
          · rw [List.mem_singleton] at hd
            subst hd
            exact hcU
        have rlt : room U (tr' ++ [c]) < room U tr' := room_lt (fun d hd => List.mem_append_left _ hd) hcU hc (List.mem_append_right _ (List.mem_singleton.mpr rfl))
        have sk2 : Seek ks line U n f' (tr' ++ [c]) := ⟨sk'.fits, sk'.own, nd2, in2, Nat.le_trans (Nat.le_of_lt rlt) sk'.room⟩
        -- tried.append(cpu)
        refine b_cons (s_dropV (we (pe_bm PySem.F.plainAttrs_list PySem.F.slot_list_append PySem.F.type_list_append mt_append pe pa) (w_var 3 rfl ⟨.inl ⟨rfl, _, .of ht3⟩, ?_⟩)))
        refine wa (pa_cons pe pa_nil) (w_var 4 rfl ⟨ta, _, _, rfl, rfl, ht3, by rw [List.length_map]; exact Nat.lt_of_le_of_lt lt1 (by decide), ?_⟩)
        generalize hH4 : upd H3 ta (.lst (tr'.map .str ++ [.str c])) = H4
        have ht4 : H4 ta = some (.lst ((tr' ++ [c]).map .str)) := by rw [← hH4, upd_same, List.map_append]; rfl
        have hf4 : H4 fa = some (.dK (fD f')) := by rw [← hH4, upd_ne hne]; exact hf3
        have s4 : Same G3 H4 := by rw [← hH4]; exact y.gh.mut k2
        have bt4 : But fa ta H H4 := bt3.trans fun b o h1 h2 e => by rw [← hH4, upd_ne h2]; exact e
        refine b_one (s_ifV (wt pw.pt (ww (pw_or pt pw) (wt_niD hu (fun Q h => w_var 4 rfl h) (fun Q h => w_var 1 rfl h) hf4 ?_))))
        have done : ∀ (H5 : Hp) (f2 : List (Str × Str)) (tr2 : List Str), H5 fa = some (.dK (fD f2)) → H5 ta = some (.lst (tr2.map .str)) → But fa ta H H5 → loopM rec t (mayOf ks line t) f tr = (true, put f2 c t, tr2) → Q (.bl true) (upd H5 fa (.dK (fD (put f2 c t)))) := fun H5 f2 tr2 hf5 ht5 bt5 e5 => by
          have z := q (upd H5 fa (.dK (fD (put f2 c t))))
          rw [e5] at z
          exact z upd_same (by rw [upd_ne (Ne.symm hne)]; exact ht5) (bt5.trans fun b o h1 h2 e => by rw [upd_ne h1]; exact e)
        cases hg : Km.get f' c with
        | none =>
          rw [hg] at eq
          refine iteT (iteT ?_)
          refine put_ret hu (fun Q h => w_var 2 rfl h) (fun Q h => w_var 1 rfl h) (fun Q h => w_var 4 rfl h) hf4 (Nat.lt_of_le_of_lt lt2 (by decide)) ?_
          exact done H4 f' (tr' ++ [c]) hf4 ht4 bt4 eq
        | some x =>
          rw [hg] at eq
          dsimp only at eq
          have rm := sk'.room
          obtain ⟨m, rfl⟩ : ∃ m, n = m + 1 := ⟨n - 1, by omega⟩
          have er2 : rec = seatM (mayOf ks line) m := hrec.symm
          subst er2
          have hxm := Km.mem_of_get hg
          have skm : Seek ks line U m f' (tr' ++ [c]) := ⟨sk'.fits, sk'.own, nd2, in2, by omega⟩
          have good := seat_good (U := U) gr.all m f' x (tr' ++ [c]) skm.fits skm.room
          have gnd := seat_nd (mayOf ks line) m f' x (tr' ++ [c]) nd2
          refine iteF (ww (pw_or1 pt) (wt (pt_val pe) ?_))
          refine wcall (E := eN) (ih m rfl) hr pasN ?_
          refine wa (pa_cons pe pa) (w_var 0 rfl (wa (pa_cons pe pa) (w_var 1 rfl (wa (pa_cons pe pa) (we (pe_dget hu pe pe (fun _ _ => rfl)) (w_var 1 rfl (w_var 4 rfl ⟨fa, .str x, rfl, ?_, wa (pa_cons pe pa_nil) (w_var 3 rfl ?_)⟩)))))))
          · have z := DGet.k (k := .inr c) hf4
            rw [fD_get, hg] at z
            exact z
          · refine ⟨G3, tv, fa, ta, x, ks, line, U, f', tr' ++ [c], rfl, s4, hT.up (s1.trans y.gg), k1, k2, hne, hf4, ht4, sk'.own _ hxm, gr, skm, fun H5 hf5 ht5 bt5 => ⟨_, rfl, ?_⟩⟩
            rcases hres : seatM (mayOf ks line) m f' x (tr' ++ [c]) with ⟨b5, f5, tr5⟩
            rw [hres] at hf5 ht5 good gnd eq
            cases b5 with
            | true =>
              have fit5 := (good.yes rfl).1
              refine iteT ?_
              have l5 : f5.length ≤ 1000 := by
                have h := Km.nodup_len fit5.nd (fun c hc => by
                  obtain ⟨p, hp, rfl⟩ := List.mem_map.mp hc
                  exact gr.all _ _ (fit5.may p hp)) (f := U)
                rw [List.length_map] at h
                exact Nat.le_trans h gr.sz
              refine put_ret hu (fun Q h => w_var 2 rfl h) (fun Q h => w_var 1 rfl h) (fun Q h => w_var 4 rfl h) hf5 (Nat.lt_of_le_of_lt l5 (by decide)) ?_
              exact done H5 f5 tr5 hf5 ht5 (bt4.trans bt5) eq
            | false =>
              obtain ⟨n1, n2, n3⟩ := good.no rfl
              dsimp only at n1
              subst n1
              refine iteF (b_nil ⟨G3, ⟨⟨_, rfl⟩, bt5.same s4 k1 k2, k1, k2, bt4.trans bt5, f5, tr5, hf5, ht5, ⟨sk'.fits, sk'.own, gnd, fun d hd => ?_, ?_⟩, eq⟩, Same.refl _⟩)
              · rcases good.inU d hd with h | h
                · exact in2 d h
                · exact h
              · exact Nat.le_trans (room_le fun d hd => good.sub d hd) sk2.room
    · rintro σ' G' H' ⟨⟨x0, rfl⟩, sg, g1, g2, bt, f', tr', hf', ht', sk', eq⟩ s1
      rw [List.drop_length] at eq
      refine b_one (s_retV (we pe_bl ?_))
      have z := q H'
      rw [eq] at z
      exact z hf' ht' bt
  intro n
  induction n with
  | zero => exact key 0 fun m z => by cases z
  | succ n ih =>
    refine key (n + 1) fun m z => ?_
    cases z
    exact cal F hm b ih
end
end Wk
set_option maxHeartbeats 4000000
/-! matched. -/
namespace Wk
open PySem PySem.Spec PyProof.Rows L2 Km
def foundT (g : List (Str × Str)) : List (Str × PyData) := g.map fun p => (p.2, .str p.1)
def itemsT (g : List (Str × Str)) : List (Str × PyData) := g.map fun p => (p.1, .str p.2)
theorem tkv_found {G : Hp} : ∀ (g : List (Str × Str)), TKv G (fD g) (itemsT g)
  | [] => .nil
  | p :: g => .cons (.str _) (tkv_found g)
/-- the result, seated or not -/
def MatR (o : Option (List (Str × Str))) (G : Hp) (v : V) : Prop := match o with
  | none => v = .non
  | some g => Tab (foundT g) G v
theorem ups_mat (o : Option (List (Str × Str))) : Ups (MatR o) := fun G G2 v s h => by
  unfold MatR at h ⊢
  split at h
  · exact h
  · exact h.up s
theorem match_cons {C T : Type} [DecidableEq C] [DecidableEq T] (mask : T → List C) (n : Nat) (t : T) (ts : List T) (f : List (C × T)) : matchM mask n (t :: ts) f = match seatM mask n f t [] with
    | (true, f2, _) => matchM mask n ts f2
    | (false, _, _) => none := by
  conv => lhs; unfold matchM
  try rfl
theorem Ext.mut {G H G2 H2 : Hp} {p : Addr} {o : HO} (x : Ext G H G2 H2) (h1 : H p = none) (h2 : G2 p = none) : Ext G H G2 (upd H2 p o) := ⟨x.gg, x.hh.mut h1, x.gh.mut h2, x.out⟩
theorem drop_at {α : Type} {xs : List α} {i : Nat} {x : α} (h : xs[i]? = some x) : xs.drop i = x :: xs.drop (i + 1) := by
  have hlt : i < xs.length := (List.getElem?_eq_some_iff.mp h).1
  rw [List.drop_eq_getElem_cons hlt]
  congr 1
  have := List.getElem?_eq_getElem hlt
  rw [h] at this
  exact (Option.some.inj this).symm
section
variable {P : Program} {w : World} {K : PySem.W.Frag} {mg : Str → Option Value} {base : Heap}
structure Asks (ks : List (Str × List Str)) (line : List (Str × Str)) (U xs : List Str) : Prop where
  gr : Ground ks line U
  u8 : U.length ≤ 8
  nd : xs.Nodup
  own : ∀ x ∈ xs, x ∈ line.map (·.1)
  sz : xs.length ≤ 1000
def SpMatched : Sp := fun vs H Q _ => ∃ G tv sv sd ks line U xs, vs = [tv, sv] ∧ Same G H ∧ Tab (mayT ks line) G tv ∧ Dq G sv sd ∧ seqOf sd = some (xs.map .str) ∧ Asks ks line U xs ∧
  ∀ v G2 H2, Ext G H G2 H2 → MatR (matchM (mayOf ks line) 8 xs []) G2 v → Q v H2
theorem ok_matched {f : Addr} {fd : FuncData} (B : Bi mg) (F : Fun K "matched" "matched" smatched f fd) (C : Cal P w K mg base CX0 "seat" ["table", "found", "task", "tried"] 9 (SpSeat 8)) : FnOk P w K mg base CX0 10 f fd ["table", "some"] SpMatched := by
  refine def_ok F cmatched (fun vs H Q E h => by obtain ⟨G, tv, sv, sd, ks, line, U, xs, rfl, _⟩ := h; rfl) fun cdv A outer s H E vs Q hr h => ?_
  obtain ⟨G, tv, sv, sd, ks, line, U, xs, rfl, sG, hT, hs, es, as, q⟩ := h
  have gr := as.gr
  have hu := hu1 hr
  refine b_cons (s_setV 2 cmatched.nd (we pe_dnewK fun fa hfa => ?_))
  have gfa : G fa = none := sG.free hfa
  have fits0 : Fits (mayOf ks line) [] := ⟨by simp, fun p hp => by simp at hp⟩
  refine b_cons (s_for (G := G) xs PyData.str (fun c G σ σ2 => ∃ v, Dq G v (.str c) ∧ σ2 = σ.set 3 (some v)) (fun i σ' G' H' => (∃ x, σ' = [some tv, some sv, some (.ref fa), x, none]) ∧ Ext G H G' H' ∧ G' fa = none ∧
      ∃ f', H' fa = some (.dK (fD f')) ∧ Fits (mayOf ks line) f' ∧ (∀ p ∈ f', p.2 ∈ line.map (·.1)) ∧ matchM (mayOf ks line) 8 xs [] = matchM (mayOf ks line) 8 (xs.drop i) f')
      PassesOwn.never rfl (ei_seq es (ed_var 1 rfl hs)) (sG.mut gfa) (fun G1 H1 y => ?_) (fun i σ' G' H' h => h.2.1.gh) (fun c hc G3 s3 σ' => bnd_name 3 cmatched.nd) ?_ ?_)
  · have x1 : Ext G H G (upd H fa (.dK [])) := (Ext.refl sG).mut hfa gfa
    exact ⟨⟨none, rfl⟩, x1.trans y, y.out _ (by rw [upd_same]; exact fun z => by cases z) gfa, [], y.hh _ _ upd_same, fits0, fun p hp => by simp at hp, rfl⟩
  · rintro i c σ' G' H' G3 H3 σ2 hi ⟨⟨x0, rfl⟩, x1, g1, f', hf', fit, own, eq⟩ s1 y ⟨v, hv, rfl⟩
    cases hv
    have nf : H' fa ≠ none := by rw [hf']; exact fun z => by cases z
    have k1 := y.out _ nf g1
    have hf3 := y.hh _ _ hf'
    have x3 := x1.trans y
    have hcx : c ∈ xs := List.mem_of_getElem? hi
    rw [drop_at hi, match_cons] at eq
    refine b_one (s_ifV (wt (pt_not pt) (wt (pt_val pe) ?_)))
    refine wcall (E := eN) C hr pasN (wa (pa_cons pe pa) (w_var 0 rfl (wa (pa_cons pe pa) (w_var 2 rfl (wa (pa_cons pe pa) (w_var 3 rfl (wa (pa_cons pe pa_nil) (we (pe_lst pa) (wa pa_nil ⟨Nat.zero_le _, fun ta hta => ?_⟩)))))))))
    have k2 : G3 ta = none := x3.gh.free hta
    have hne : fa ≠ ta := fun z => by rw [← z, hf3] at hta; cases hta
    have rm : room U ([] : List Str) ≤ 8 := room_nil as.u8
    have good := seat_good (U := U) gr.all 8 f' c [] fit rm
    refine ⟨G3, tv, fa, ta, c, ks, line, U, f', [], rfl, x3.gh.mut k2, hT.up x3.gg, k1, k2, hne, by rw [upd_ne hne]; exact hf3, upd_same, as.own c hcx, gr, ⟨fit, own, List.nodup_nil, fun c hc => by simp at hc, rm⟩, fun H5 hf5 ht5 bt5 => ⟨_, rfl, ?_⟩⟩
    rcases hres : seatM (mayOf ks line) 8 f' c [] with ⟨b5, f5, tr5⟩
    rw [hres] at hf5 ht5 good eq
    have x5 : Ext G H G3 H5 := ⟨x3.gg, fun b o e => ?_, bt5.same (x3.gh.mut k2) k1 k2, x3.out⟩
    · cases b5 with
      | true =>
        obtain ⟨fit5, pm, _⟩ := good.yes rfl
        refine iteF (b_nil ⟨G3, ⟨⟨_, rfl⟩, x5, k1, f5, hf5, fit5, fun p hp => ?_, eq⟩, Same.refl _⟩)
        rcases List.mem_cons.mp (pm.mem_iff.mp (List.mem_map.mpr ⟨p, hp, rfl⟩)) with h | h
        · rw [h]
          exact as.own c hcx
        · obtain ⟨p', hp', e⟩ := List.mem_map.mp h
          rw [← e]
          exact own p' hp'
      | false =>
        refine iteT (b_one (s_retV (we pe_non (q .non G3 H5 x5 ?_))))
        rw [eq]
        rfl
    · have n1 : b ≠ fa := fun z => by rw [z, hfa] at e; cases e
      have e3 := x3.hh b o e
      have n2 : b ≠ ta := fun z => by rw [z, hta] at e3; cases e3
      exact bt5 b o n1 n2 (by rw [upd_ne n2]; exact e3)
  · rintro σ' G' H' ⟨⟨x0, rfl⟩, x1, g1, f', hf', fit, own, eq⟩ s1
    rw [List.drop_length] at eq
    have em : matchM (mayOf ks line) 8 xs [] = some f' := eq
    obtain ⟨_, pm⟩ := match_some gr.all as.u8 xs [] f' fits0 em
    have nd : (f'.map (·.2)).Nodup := by
      rw [List.map_nil, List.append_nil] at pm
      exact pm.nodup_iff.mpr as.nd
    rw [em] at q
    have s5 : Same (upd G' fa (.dK (fD f'))) H' := fun b o e => by
      by_cases z : b = fa
      · subst z
        rw [upd_same] at e
        rw [hf']
        exact e
      · rw [upd_ne z] at e
        exact x1.gh b o e
    have x5 : Ext G H (upd G' fa (.dK (fD f'))) H' := ⟨x1.gg.trans (Same.laid g1), x1.hh, s5, fun b h1 h2 => by
      have z : b ≠ fa := fun z => h1 (by rw [z]; exact hfa)
      rw [upd_ne z]
      exact x1.out b h1 h2⟩
    have sz : f'.length ≤ 1000 := by
      have := pm.length_eq
      simp only [List.length_map, List.map_nil, List.append_nil] at this
      have := as.sz
      omega
    refine b_one (s_retE (R := Tab (foundT f')) ?_ s5 fun v G2 H2 y r => q v G2 H2 (x5.trans y) r)
    refine ev_lock (kvs := fD f') (r := fa) upd_same (swaps_tab _) fun od => ?_
    refine ev_dc2 4 3 f' (fun p => .str p.1) (fun p => .str p.2) (fun p => rowD (p.1, .str p.2)) (fun p => p.2) (fun p => .str p.1) (fun _ _ => rfl) (by omega) nd rfl cmatched.nd (blk_ok nmatched (defScope smatched) _ _ (by decide +kernel))
      (EI.to (ei_items (r := fa) (od := od) (kvs := fD f') (t := itemsT f') upd_same (tkv_found f') (ev_var 2 rfl rfl)) (by unfold itemsT; rw [List.map_map]; rfl)) ?_ ?_
    · intro p hp G3 _ u u2 hu hu2 s0 H0 C cl fp
      exact ed_var 3 rfl hu2
    · intro p hp G3 _ u u2 hu hu2 s0 H0 C cl fp
      exact ed_var 4 rfl hu
end
end Wk
set_option maxHeartbeats 4000000
/-! The class NoTask: how one is made. -/
namespace PySem
namespace Nt
open PySem.W PySem.Calls PyProof.Rows PySem.HandSPX
abbrev leTail : List Value := [.type "LookupError", .type "Exception", .type "BaseException", .type "object"]
/-- the text of __init__ -/
def initS : Stmt := match Wk.topS 1 with
  | .ClassDef _ _ _ (st :: _) _ _ _ _ _ _ _ => st
  | st => st
structure NoTxt (P : Program) (K : Frag) (mg : Str → Option Value) (C fI : Addr) : Prop where
  gC : mg "NoTask" = some (.ref C)
  cls : ∃ nm q N bs sn sub ab col dd k0 k1 k2 k3 k5, K.lookup C = some (excClassObj nm q C N bs leTail true sn sub ab col dd k0 k1 k2 k3 k5 "LookupError.__new__")
  sa : findIn K (.ref C) "__setattr__" = some (some (.builtin "object.__setattr__"))
  ga : findIn K (.ref C) "__getattribute__" = some (some (.builtin "BaseException.__getattribute__"))
  gg : findIn K (.ref C) "__getattr__" = some none
  noN : findIn K (.ref C) "name" = some none
  iC : findIn K (.ref C) "__init__" = some (some (.ref fI))
  tC : typeIn K (.ref fI) = some (.type "function")
  kC : keepIn K (.ref C) = true
  exC : subIn K (.ref C) (.type "BaseException") = some true
  leC : subIn K (.ref C) (.type "LookupError") = some true
  tyC : typeIn K (.ref C) = some (.type "type")
  hdC : hasDictIn K C = true
  te : exmOne K (.ref C) (.ref C) = some true
  clA : findIn K (.ref C) "__class__" = some (some (.builtin "object.__class__"))
  clN : specialIn K (.builtin "object.__class__") "__get__" = some (some (.builtin "getset_descriptor.__get__"))
  clT : takesIn K (.builtin "object.__class__") = some true
  clM : mroIn K C (.type "object") = some true
  kLe : kitOne K (.ref C) (.type "LookupError") = some true
  sup : mg "super" = none
  opq : nsIn K cStatics "thirdparty.any" = some none
  slf : mroIn K C (.ref C) = some true
  top : (P.main.scope.names.lookup ("super" : Str)).isSome = false
  fn : ∃ (oc : Value) (od : Option Addr) (doc pm : Value) (an : Option Addr) (ct : Value) (osl : Array (Option Value)) (cc cda : Addr) (vs : Array Value) (file : Str) (tf : Tok) (ccl cl : Value) (cdd cld : Option Addr) (ccs csl : Array (Option Value)),
    K.lookup fI = some ⟨oc, od, .func (ksFn "__init__" "NoTask.__init__" (L2.defArgs initS) (L2.defBody initS) (L2.defScope initS) .none .none doc pm an (.ref cda) ct cc), osl⟩ ∧ codeIn K (.ref cda) "NoTask.__init__" = true ∧
    K.lookup cda = some ⟨ccl, cdd, .fields vs, ccs⟩ ∧ vs[2]? = some (.str file tf) ∧ ((P.main.file : Str) == file) = true ∧ K.lookup cc = some ⟨cl, cld, .cell (some (.ref C)), csl⟩
theorem le_has {C : Addr} (b : Value) (hb : leTail.contains b = true) : (Value.ref C :: leTail).contains b = true := by
  rw [List.contains_cons, hb]
  exact Bool.or_true _
section
open Builtin Builtin.ObjectAttr
variable {prog : Program} {w : World} {A : Around} {E : Value → Shared → Prop} {R : Result → Shared → Prop} {hp : Heap} {g : Array GenState} {d : Drawn} {t : Nat} {os : OsState}
theorem osa_le {K : Frag} {name : Str} {tk : Tok} {v : Value} {x C : Addr} {fv : Array Value} {cd : ClassData} (X : K.In hp) (hx : hp.get? x = some { cls := .ref C, data := .fields fv }) (hcd : clsIn K C = some cd) (hm : cd.mro = .ref C :: leTail) (hh : cd.hasDict = true) (ha : findIn K (.ref C) name = some none)
    (hq : ∀ h' tk' dx, (∀ b o, b ≠ x → hp.get? b = some o → h'.get? b = some o) → hp.objs.size ≤ dx → dx ≠ x → h'.get? x = some { cls := .ref C, dict := some dx, data := .fields fv } → h'.Ns1 dx (fun y => if y = name then some v else none) → R (.ok (.ret .none)) ⟨h', g, d, tk', os⟩) :
    codeAny (model prog w) A (.call (.builtin "object.__setattr__") ⟨[.ref x, .str name tk, v], []⟩) R ⟨hp, g, d, t, os⟩ := by
  have I : InstAt hp x { cls := .ref C, data := .fields fv } C none := ⟨hx, rfl, rfl, trivial⟩
  have hxs : x ≠ hp.objs.size := Nat.ne_of_lt (Heap.lt_size hx)
  have SF := F.store_object
  have mr : mroIn K C (.type "object") = some true := by
    unfold mroIn
    rw [hcd, Option.bind_some, hm, if_neg (show ¬ (List.isEmpty (Value.ref C :: leTail) = true) from Bool.false_ne_true)]
    exact congrArg some (le_has _ (by decide +kernel))
  have sub : Looks (model prog w) hp (isInstance (.ref x) (.type "object")) true := I.type.andThen (looks_mroIn X mr)
  refine codeAny_call_builtin SF.slot.plain SF.entry (@check_slot (model prog w) _ _ ⟨hp, g, d, t, os⟩ "object.__setattr__" "object" "__setattr__" (.ref x) [.str name tk, v] [] _ SF.kind SF.split sub (SF.args (.ref x) (.str name tk) v) ?_)
  have hmr : Looks (model prog w) hp (mroOf (.ref C)) cd.mro := (looks_clsIn X hcd).andThen .now
  have L3 : Looks (model prog w) hp (storeTaker? none) none := .now
  have hcls : Looks (model prog w) hp (classData C) cd := looks_clsIn X hcd
  have pass : refuseLoop (.ref x) "__setattr__" cd.mro = pure () := by
    rw [hm, refuseLoop_ref]
    exact F.store_LookupError.passes _
  rw [osa_eq, refuse_eq]
  refine wpAny_bind (wpAny_bind (I.type.at (wpAny_bind (hmr.at ?_))))
  rw [pass]
  refine wpAny_pure (wpAny_bind (I.type.at (wpAny_bind ((looks_findIn X ha).at (wpAny_bind (L3.at ?_))))))
  show wpAny _ _ (storeInOwnDict (.ref x) (.ref C) (.str name tk) name v false) _ _ _
  obtain ⟨nm, bs, mro, ns, qn, hd, sn, sb, ab, col, del⟩ := cd
  dsimp only at hh
  subst hh
  unfold storeInOwnDict ownDictForStores
  repeat (first | with_reducible refine HandSPX.store_in_new ?_ ?_ | with_reducible refine wpAny_loadPart_at hx ?_ | with_reducible refine hcls.at ?_ | wp_step)
  · exact ⟨_, #[], _, (Heap.get?_update_ne _ _ _ _ hxs.symm).trans (Heap.get?_push_at rfl rfl), rfl, fun e he => absurd he (by simp), fun _ => rfl⟩
  · intro h' tk' hn' hs
    have hx₁ : (hp.push { cls := .type "dict", data := .dict #[] }).get? x = some { cls := .ref C, data := .fields fv } := Heap.get?_push_of_some _ hx
    refine hq h' tk' hp.objs.size (fun b o hb ho => ?_) (Nat.le_refl _) hxs.symm ?_ hn'
    · exact (hs.2 b (Nat.ne_of_lt (Heap.lt_size ho))).trans ((Heap.get?_update_ne _ _ _ _ hb).trans (Heap.get?_push_of_some _ ho))
    · exact (hs.2 x hxs).trans (Heap.get?_update_self _ hx₁ rfl)
end
section
variable {prog : Program} {w : World} {A : Around} {E : Value → Shared → Prop} {h : Heap} {g : Array GenState} {d : Drawn} {t : Nat} {os : OsState}
/-- LookupError.__init__ of x, by super() -/
theorem call_kw {nm q : Str} {C N : Addr} {bs : List Value} {sn : List Str} {sub : List Value} {ab : Bool} {col : Option Bool} {dd : Option Addr} {k0 k1 k2 k3 k5 : Option Value} {u x t0 : Addr} {rest : List Value} {Q : Value → Shared → Prop}
    (hC : h.get? C = some (excClassObj nm q C N bs leTail true sn sub ab col dd k0 k1 k2 k3 k5 "LookupError.__new__")) (he : h.get? x = some (excO C t0)) (hu : h.get? u = some (kxs_mw "LookupError.__init__" x)) (hrest : rest.length ≤ sizeLine)
    (hq : ∀ h' t1, (∀ b o, b ≠ x → h.get? b = some o → h'.get? b = some o) → h'.get? x = some (excO C t1) → h'.get? t1 = some (excTup rest) → Q .none ⟨h', g, d, t, os⟩) :
    wpAny (model prog w) A (call (.ref u) rest) Q E ⟨h, g, d, t, os⟩ := by
  have FB := F.excBase_LookupError
  refine wpAny_call (codeAny_of_tree ?_)
  show wpAny _ A.in1 (callAny (.ref u) ⟨rest, []⟩) _ _ _
  simp only [callAny]
  refine wpAny_bind (wpAny_load hu ?_)
  simp only [kxs_mw, show (Value.type "method-wrapper" == Value.type "method" || Value.type "method-wrapper" == Value.type "builtin_function_or_method" || Value.type "method-wrapper" == Value.type "method-wrapper") = true by decide, if_true]
  refine KFB.if_so (by decide) ?_
  refine wpAny_bind (check_bound_init FB.toExcCallFacts hC he rfl ?_)
  refine wpAny_bind (wpAny_pure (wpAny_pure ?_))
  refine ⟨plainId_quiet FB.init.plain _, codeAny_builtin FB.initEntry ?_⟩
  exact exc_init_tree (cls := .ref C) (t0 := t0) (dv := none) (c2 := .none) (c3 := .none) (b4 := .bool false) he hrest fun h' k e' t' => hq h' _ k e' t'
end
end Nt
end PySem
set_option maxHeartbeats 4000000
namespace PySem
namespace Nt
open PySem.W PySem.Calls PyProof.Rows PySem.HandSPX
theorem fits1 (v : Value) : [v].length ≤ sizeLine := by
  rw [sizeLine_eq]
  exact (by decide : 1 ≤ 16777216)
theorem in_but {K : Frag} {h h' : Heap} {x : Addr} (X : K.In h) (hx : K.lookup x = none) (k : ∀ b o, b ≠ x → h.get? b = some o → h'.get? b = some o) : K.In h' := fun a o e => by
  by_cases z : a = x
  · rw [z, hx] at e
    cases e
  · exact k a o z (X a o e)
/-- a local name in a def that knows its class -/
theorem ldK {M : Model} {s : Shared} {q : Str} {scope : Scope} {L f cc : Addr} {cd : Value} {m : Str → Option Value} {x : Str} {pos : Pos} {v : Value} {Q : Value → Shared → Prop} {A : Around} {E : Value → Shared → Prop} (hn : s.heap.Ns L m) (hv : m x = some v) (h : Q v s)
    (hk : scope.kind = .function := by rfl) (hl : scope.names.lookup x = some .local := by rfl) (hd : (x == ("__debug__" : Str)) = false := by decide) : wpAny M A (eval (.Name x pos) (ksEnv q scope L f cd cc)) Q E s :=
  wpAny_Name (wpAny_loadName_local (env := ksEnv q scope L f cd cc) hk hl hn hv h) hd
theorem boot_super : bootBuiltins "super" = some (.type "super") := by first | rfl | decide +kernel | kernel_rfl
structure Done (h h' : Heap) (x C dx t1 : Addr) (v : Value) : Prop where
  keep : ∀ b o, b ≠ x → h.get? b = some o → h'.get? b = some o
  obj : h'.get? x = some { cls := .ref C, dict := some dx, data := .fields #[.ref t1, .none, .none, .none, .bool false, .none] }
  dbig : h.objs.size ≤ dx
  dne : dx ≠ x
  ns : h'.Ns1 dx (fun y => if y = "name" then some v else none)
structure Made (h h' : Heap) (e C d : Addr) (v : Value) : Prop where
  keep : ∀ b o, h.get? b = some o → h'.get? b = some o
  new : h.objs.size ≤ e
  obj : ∃ oe vs, h'.get? e = some oe ∧ oe.cls = .ref C ∧ oe.dict = some d ∧ oe.data = .fields vs ∧ vs[1]? = some .none
  dbig : h.objs.size ≤ d
  dne : d ≠ e
  ns : h'.Ns1 d (fun y => if y = "name" then some v else none)
section
variable {prog : Program} {w : World} {A : Around} {E : Value → Shared → Prop} {R : Result → Shared → Prop} {s : Shared} {K : Frag} {mg mb : Str → Option Value} {C fI : Addr}
theorem no_init (T : NoTxt prog K mg C fI) {x t0 : Addr} {v : Value} (X : K.In s.heap) (hlim : s.heap.NoLimit) (hG : s.heap.Ns mainGlobals mg) (hB : s.heap.Ns builtinsNs mb) (hb : ∀ y : Str, y ≠ "__name__" → mb y = bootBuiltins y) (hx : s.heap.get? x = some (excO C t0)) (hnx : K.lookup x = none) (hroom : A.depth < recursionLimit)
    (hq : ∀ h' tk dx t1, Done s.heap h' x C dx t1 v → R (.ok (.ret .none)) { s with heap := h', toks := tk }) :
    codeAny (model prog w) A (.call (.ref fI) ⟨[.ref x, v], []⟩) R s := by
  obtain ⟨oc, od, doc, pm, an, ct, osl, cc, cda, vs, file, tf, ccl, cl, cdd, cld, ccs, csl, ho, hcd, hcode, hvs, hfile, hcell⟩ := T.fn
  obtain ⟨nm, q, N, bs, sn, sub, ab, col, dd, k0, k1, k2, k3, k5, hC⟩ := T.cls
  have hcl : clsIn K C = some { name := nm, bases := bs, mro := .ref C :: leTail, ns := N, qualname := q, hasDict := true, slotNames := sn, subclasses := sub, abstract := ab, collection := col, hasDel := false } := by
    unfold clsIn
    rw [hC] <;> rfl
  have hxC : x ≠ C := fun z => by
    rw [z, hC] at hnx
    cases hnx
  refine ks_codeAny_call_defAt (fd := ksFn "__init__" "NoTask.__init__" (L2.defArgs initS) (L2.defBody initS) (L2.defScope initS) .none .none doc pm an (.ref cda) ct cc) (body := L2.defBody initS) (binds := [("self", .ref x), ("name", v)]) hroom (X _ _ ho) rfl hlim (codeRec_of X hcd) rfl (BindsTo.of_eq rfl) (by show ∀ y ∈ (L2.defScope initS).names, y.2 ≠ .cell; decide +kernel) (by
    intro y hy
    rcases List.mem_cons.mp hy with rfl | hy
    · rfl
    · rw [List.mem_singleton] at hy
      subst hy
      rfl) (fun h₁ hn k₁ => ?_)
  have X₁ : K.In h₁ := X.keeps k₁
  have hx₁ := k₁ _ _ hx
  have I₁ : InstAt h₁ x (excO C t0) C none := ⟨hx₁, rfl, rfl, trivial⟩
  show wpAt (model prog w) _ (.func (L2.defBody initS) (ksEnv "NoTask.__init__" (L2.defScope initS) s.heap.objs.size fI (.ref cda) cc)) (execs (L2.defBody initS) (ksEnv "NoTask.__init__" (L2.defScope initS) s.heap.objs.size fI (.ref cda) cc)) _ _ _
  refine ks_wpAt_execs_cons ?_
  refine ks_wpAt_Expr_any ?_
  refine ks_wpAt_MethodCall ?_
  refine ks_wpAt_super_base (env := ksEnv "NoTask.__init__" (L2.defScope initS) s.heap.objs.size fI (.ref cda) cc) (by rfl) (by rfl) (by decide) rfl (X₁ _ _ ho) rfl (ar := ⟨"self", none, _⟩) (by rfl) rfl (X₁ _ _ hcode) rfl hvs hfile T.top ?_
  refine ks_loadName_global (by rfl) (by rfl) (loadGlobal_builtin (env := ksEnv "NoTask.__init__" (L2.defScope initS) s.heap.objs.size fI (.ref cda) cc) (hG.keeps k₁) T.sup (hB.keeps k₁) ((hb _ (by decide)).trans boot_super) ⟨rfl, ?_⟩)
  refine wpAny_loadName_free (by rfl) (by rfl) rfl ⟨_, X₁ _ _ hcell, rfl⟩ ?_
  refine wpAny_loadName_local (v := .ref x) (by rfl) (by rfl) hn rfl ?_
  refine ks_wpAny_isType_cls (X₁ _ _ hC) rfl ⟨rfl, ?_⟩
  refine ks_wpAny_call_super (X₁ _ _ hC) rfl hx₁ rfl (fun c e => by cases e) (looks_mroIn X₁ T.slf) (fun h₂ hso k₂ => ?_)
  have X₂ : K.In h₂ := X₁.keeps k₂
  have hx₂ := k₂ _ _ hx₁
  have I₂ : InstAt h₂ x (excO C t0) C none := ⟨hx₂, rfl, rfl, trivial⟩
  refine kxs_getMethod kxs_LookupError hso (looks_opaque X₂ T.opq) (l₀ := .ref C :: leTail) (l := leTail) ?_ (ESX.drop_own C leTail) X₂ (by kernel_rfl) (I₂.type.andThen (looks_subIn X₂ T.leC)) hxC (by decide) ?_
  · exact fun A Q E s k q => wpAny_bind ((looks_clsIn X₂ hcl) A _ E s k (wpAny_pure q))
  have k₃ : ∀ b o, h₂.get? b = some o → (h₂.push (kxs_mw "LookupError.__init__" x)).get? b = some o := fun b o e => Heap.get?_push_of_some _ e
  have hu₃ : (h₂.push (kxs_mw "LookupError.__init__" x)).get? h₂.objs.size = some (kxs_mw "LookupError.__init__" x) := Heap.get?_push_size _ rfl
  have hx₃ := k₃ _ _ hx₂
  have hn₃ := (hn.keeps k₂).keeps k₃
  refine kxs_callWith (i := "LookupError.__init__") (x := x) (by rfl) (evalArgs_plain (spliced_cons (ldK (v := v) hn₃ rfl (spliced_nil ⟨hu₃, ?_⟩))))
  refine call_kw (k₃ _ _ (X₂ _ _ hC)) hx₃ hu₃ (fits1 v) fun h₄ t1 k₄ hx₄ ht₄ => ?_
  have hxL : s.heap.objs.size ≠ x := Nat.ne_of_gt (Heap.lt_size hx)
  have X₄ : K.In h₄ := in_but (X₂.keeps k₃) hnx k₄
  have hn₄ : h₄.Ns s.heap.objs.size (fun y => ([("self", Value.ref x), ("name", v)] : List (Str × Value)).reverse.lookup y) := hn₃.at fun o e => k₄ _ _ hxL e
  refine ks_wpAt_execs_cons (wpAt_of_wpAny ?_)
  refine plainObj_wpAny_Assign_Attribute ?_
  refine ldK (v := v) hn₄ rfl (ldK (v := .ref x) hn₄ rfl ?_)
  refine set_plain X₄ (ox := excO C t1) (od := none) ⟨hx₄, rfl, rfl, trivial⟩ T.sa ?_
  refine osa_le X₄ hx₄ hcl rfl rfl T.noN (fun h₅ tk₅ dx k₅ dn dne hx₅ hn₅ => ?_)
  have z : s.heap.objs.size < h₄.objs.size := hn₄.lt
  show wpAt _ _ _ (execs [] _) _ _ _
  exact wpAt_of_wpAny (wpAny_execs_nil (hq h₅ tk₅ dx t1 ⟨fun b o hb e => k₅ b o hb (k₄ b o hb (k₃ _ _ (k₂ _ _ (k₁ b o e)))), hx₅, Nat.le_of_lt (Nat.lt_of_lt_of_le z dn), dne, hn₅⟩))
end
end Nt
end PySem
set_option maxHeartbeats 4000000
namespace PySem
namespace Nt
open PySem.W PySem.Calls PyProof.Rows PySem.HandSPX
section
variable {prog : Program} {w : World} {A : Around} {E : Value → Shared → Prop} {R : Result → Shared → Prop} {s : Shared} {K : Frag} {mg mb : Str → Option Value} {C fI : Addr}
theorem no_made (T : NoTxt prog K mg C fI) {v : Value} (X : K.In s.heap) (hlim : s.heap.NoLimit) (hG : s.heap.Ns mainGlobals mg) (hB : s.heap.Ns builtinsNs mb) (hb : ∀ y : Str, y ≠ "__name__" → mb y = bootBuiltins y) (hroom : A.depth + 1 < recursionLimit)
    (hq : ∀ h' tk e d, Made s.heap h' e C d v → R (.ok (.ret (.ref e))) { s with heap := h', toks := tk }) :
    codeAny (model prog w) A (.call (.ref C) ⟨[v], []⟩) R s := by
  obtain ⟨nm, q, N, bs, sn, sub, ab, col, dd, k0, k1, k2, k3, k5, hC⟩ := T.cls
  obtain ⟨hp, g, dr, tk, os⟩ := s
  have up : ∀ b o, hp.get? b = some o → ((hp.push (kdv_tup [v])).push (excO C hp.objs.size)).get? b = some o := fun b o e => Heap.get?_push_of_some _ (Heap.get?_push_of_some _ e)
  have at1 : ((hp.push (kdv_tup [v])).push (excO C hp.objs.size)).get? (hp.objs.size + 1) = some (excO C hp.objs.size) := by heap_get
  have out : K.lookup (hp.objs.size + 1) = none := by
    cases e : K.lookup (hp.objs.size + 1) with
    | none => rfl
    | some o => exact absurd (Nat.lt_of_succ_lt (Heap.lt_size (X _ _ e))) (Nat.lt_irrefl _)
  refine call_own F.excBase_LookupError (fun X => ?_) (X _ _ hC) (looks_findIn X T.iC) (fun self => bind_fn X self T.tC) (fits1 v) ?_
  · rfl
  refine no_init (s := ⟨(hp.push (kdv_tup [v])).push (excO C hp.objs.size), g, dr, tk, os⟩) T (X.keeps up) (hlim.keeps up) (hG.keeps up) (hB.keeps up) hb at1 out ?_ fun h' tk' dx t1 D => ?_
  · show A.depth + 1 < recursionLimit
    exact hroom
  · have old : ∀ b o, hp.get? b = some o → h'.get? b = some o := fun b o e => D.keep b o (Nat.ne_of_lt (Nat.lt_succ_of_lt (Heap.lt_size e))) (up b o e)
    have z : hp.objs.size + 1 + 1 ≤ dx := by
      have q := D.dbig
      simpa only [Heap.size_push] using q
    exact ⟨rfl, hq h' tk' (hp.objs.size + 1) dx ⟨old, Nat.le_succ _, ⟨_, _, D.obj, rfl, rfl, rfl, rfl⟩, Nat.le_trans (Nat.le_trans (Nat.le_succ _) (Nat.le_succ _)) z, D.dne, D.ns⟩⟩
end
end Nt
end PySem
namespace Wk
open PySem PySem.Spec PyProof.Rows L2 PySem.Nt
theorem relO_name {v : V} {v' : Value} (r : RelV v v') (f : Str) : RelO (List.lookup f [(("name" : Str), v)]) (if f = "name" then some v' else none) := by
  by_cases hw : f = "name"
  · subst hw
    rw [if_pos rfl, show List.lookup ("name" : Str) [(("name" : Str), v)] = some v by simp [List.lookup]]
    exact r
  · have qw : (f == ("name" : Str)) = false := by simpa using hw
    rw [if_neg hw, show List.lookup f [(("name" : Str), v)] = none by simp [List.lookup, qw]]
    trivial
section
variable {X : Cx} {C fI : Addr}
/-- NoTask(e) -/
def tNo (C : Addr) (ta : TA) : L2.St → Hp → XK → Prop := fun σ H Q => ta σ H fun vs H1 => ∃ v, vs = [v] ∧ ∀ d, H1 d = none → Q (.ref C) (some d) (upd H1 d (.xd [(("name" : Str), v)]))
theorem pmk_no {a : Expr} {ta : TA} {p pos : Pos} {k : Nat} (T : NoTxt X.prog X.K X.mg C fI) (hr : Room k X.A) (ha : PA X [a] ta) (hg : Gl X "NoTask" := by rfl) (he : starEach (a :: []) X.env = (false, eval a X.env) :: starEach [] X.env := by rfl) (hpl : (backTo pos (starEach [] X.env)).any (·.1) = false := by rfl) :
    PMk X (.Call (.Name "NoTask" p) [a] [] pos) (tNo C ta) := by
  intro pins s σ H Q I h
  refine wpAny_Call_Name_kw (ld_glob I hg T.gC ?_)
  refine PySem.W.callWith_K (h₀ := X.base) I.ok.mod.kin T.kC (thn (ha.run pos pins s σ H _ I h) fun us s1 ⟨vs, H1, I1, r1, v, ev, q1⟩ => ?_) he hpl
  subst ev
  refine ⟨I1.kIn, ?_⟩
  cases r1 with
  | cons rv rn =>
    rename_i v' us'
    cases rn
    have hlim := I1.nolimit
    have hG := I1.mod.glob.keeps I1.bk
    obtain ⟨mb, hB, hb⟩ := I1.mod.blt
    have hB2 := hB.keeps I1.bk
    obtain ⟨hp, g, dr, tk, os⟩ := s1
    refine wpAny_call (no_made T I1.kIn hlim hG hB2 hb (by have := hr.dp; omega) fun h' tk' e d M => ?_)
    show MkP X pins σ Q (.ref e) ⟨h', g, dr, tk', os⟩
    obtain ⟨oe, fv, hoe, hc, hd, hdat, h1⟩ := M.obj
    have hns := M.ns
    obtain ⟨G', g1, g2⟩ := restrict h' fun b => decide (b ≠ e)
    have gk : ∀ b, b ≠ e → G'.get? b = h'.get? b := fun b hb => g1 b (decide_eq_true hb)
    have ge : G'.get? e = none := g2 e (by simp)
    have old : ∀ b o, hp.get? b = some o → G'.get? b = some o := fun b o q => (gk b (Nat.ne_of_lt (Nat.lt_of_lt_of_le (Heap.lt_size q) M.new))).trans (M.keep b o q)
    have ob : ObjOk X.prog X.w (upd H1 d (.xd [(("name" : Str), v)])) G' d (.xd [(("name" : Str), v)]) := ⟨_, hns.at (fun o q => (gk d M.dne).trans q), fun f => relO_name rv f⟩
    have J : Inv X pins σ (upd H1 d (.xd [(("name" : Str), v)])) ⟨G', g, dr, tk', os⟩ := I1.laid (t' := tk') old M.dbig ob
    refine ⟨e, oe, fv, ⟨G', g, dr, tk', os⟩, _, .ref C, some d, rfl, J, fun b o q => ?_, ge, hoe, ⟨hc, hd⟩, hdat, h1, ?_, rfl, I1.bare, raises_own T.exC T.tyC, q1 d (I1.hok.fresh M.dbig)⟩
    · by_cases hb : b = e
      · have q' : G'.get? b = some o := q
        rw [hb, ge] at q'
        cases q'
      · exact (gk b hb).symm.trans q
    · rw [upd_ne (Ne.symm M.dne)]
      exact I1.hok.fresh M.new
/-- raise NoTask(e) -/
theorem ps_raiseNo {a : Expr} {ta : TA} {W : WX} {p pos pos2 : Pos} {k : Nat} (hc : X.calm = true) (T : NoTxt X.prog X.K X.mg C fI) (hr : Room k X.A) (tk : Takes X W) (ha : PA X [a] ta) (hg : Gl X "NoTask" := by rfl) (he : starEach (a :: []) X.env = (false, eval a X.env) :: starEach [] X.env := by rfl) (hpl : (backTo pos (starEach [] X.env)).any (·.1) = false := by rfl) :
    PS X (.Raise (some (.Call (.Name "NoTask" p) [a] [] pos)) none pos2) (fun _ σ H => tNo C ta σ H fun cls d H' => W cls d σ H') := ps_raise hc tk (pmk_no T hr ha hg he hpl)
/-- error.name, error what the suite holds -/
def tNoName (C : Addr) (a : Addr) (cls : Value) (d : Option Addr) (te : TE) : TE := fun σ H Q => te σ H fun x H1 => x = .ref a ∧ cls = .ref C ∧ ∃ (dd : Addr) (v : V), d = some dd ∧ H1 dd = some (.xd [(("name" : Str), v)]) ∧ Q v H1
theorem no_at {a : Addr} {oe : Obj} {cls : Value} {d : Addr} {pn pins : List (Addr × Obj)} {σ : L2.St} {H : Hp} {s : Shared} {v : V} (hz : Zc cls (some d) oe) (hc : cls = .ref C) (hf : ∃ vs, oe.data = .fields vs) (I : Inv (X.suite a ((a, oe) :: pn)) pins σ H s) (ea : H d = some (.xd [(("name" : Str), v)])) :
    ∃ od mA, s.heap.Ns1 d mA ∧ (∀ f, RelO (List.lookup f [(("name" : Str), v)]) (mA f)) ∧ PySem.W.InstAt s.heap a oe C (some od) ∧ PySem.W.lookIn "name" od = some (mA "name") := by
  obtain ⟨ha, _⟩ := I.pin (a, oe) (List.mem_append_left _ List.mem_cons_self)
  obtain ⟨vs, hd⟩ := hf
  obtain ⟨mA, hns, hr⟩ : ObjOk X.prog X.w H s.heap d (.xd [(("name" : Str), v)]) := I.hok d _ ea
  obtain ⟨od, ho, hl⟩ := lookIn_ns hns
  exact ⟨od, mA, hns, hr, ⟨ha, hz.1.trans hc, by unfold PySem.W.notCls; rw [hd] <;> rfl, by rw [hz.2]; exact ho⟩, hl _⟩
theorem pe_noName {a : Addr} {oe : Obj} {cls : Value} {d : Option Addr} {pn : List (Addr × Obj)} {e : Expr} {te : TE} {pos : Pos} (T : NoTxt X.prog X.K X.mg C fI) (hz : Zc cls d oe) (hf : ∃ vs, oe.data = .fields vs) (he : PE (X.suite a ((a, oe) :: pn)) e te)
    (hb : attributeBase e "name" X.env (eval e X.env) = eval e X.env := by rfl) : PE (X.suite a ((a, oe) :: pn)) (.Attribute e "name" pos) (tNoName C a cls d te) := by
  refine ⟨fun pins s σ H Q I h => ?_⟩
  refine attr_of hb (thn (he.run pins s σ H _ I h) fun u s1 ⟨x, H1, I1, rx, ex, ec, dd, v, ed, ea, q⟩ => ?_)
  subst ex
  obtain rfl : u = Value.ref a := rx
  subst ed
  obtain ⟨od, mA, hns, hr, J, hl⟩ := no_at (C := C) hz ec hf I1 ea
  obtain ⟨u, hu, ru⟩ := RelO.some_of (v := v) (o := mA "name") (by
    have z := hr "name"
    rw [show List.lookup ("name" : Str) [(("name" : Str), v)] = some v by simp [List.lookup]] at z
    exact z)
  exact HandSPX.exc_get I1.kIn J T.ga T.gg T.exC (PySem.W.findObj_own T.hdC T.noN rfl (by rw [hl, hu])) (handed_of ru) ⟨v, H1, I1.tok _, ru, q⟩
/-- isinstance(error, LookupError) -/
def rIsNo (C : Addr) (a : Addr) (cls : Value) (d : Option Addr) : List V → Hp → VK → Prop := fun vs H Q => vs = [.ref a, .ty "LookupError"] ∧ cls = .ref C ∧ ∃ (dd : Addr) (v : V), d = some dd ∧ H dd = some (.xd [(("name" : Str), v)]) ∧ Q (.bl true) H
theorem cr_isNo {a : Addr} {oe : Obj} {cls : Value} {d : Option Addr} {pn : List (Addr × Obj)} (T : NoTxt X.prog X.K X.mg C fI) (hz : Zc cls d oe) (hf : ∃ vs, oe.data = .fields vs) : CallR (X.suite a ((a, oe) :: pn)) (.builtin "isinstance") (rIsNo C a cls d) := by
  intro pins s σ H xs us Q I r h
  obtain ⟨rfl, ec, dd, v, ed, ea, q⟩ := h
  subst ed
  cases r with
  | cons rx rr =>
    cases rr with
    | cons rt rr =>
      cases rr
      cases rx
      cases rt
      obtain ⟨od, mA, _, _, J, _⟩ := no_at (C := C) hz ec hf I ea
      have hcl : (PySem.W.clsIn X.K C).isSome = true := by
        obtain ⟨cd, hc, _⟩ := PySem.W.any_some T.hdC
        rw [hc]
        rfl
      exact PySem.W.kia_one (PySem.W.kitx_exc hcl T.ga T.gg T.exC T.clA T.clN T.clT T.clM) I.kIn J T.kLe (fun z => nomatch z) fun tk => ⟨.bl true, H, I.tok _, rfl, q⟩
end
end Wk
set_option maxHeartbeats 4000000
/-! A comprehension laid into a plain local. -/
namespace Wk
open PySem PySem.Spec PyProof.Rows L2
section
variable {X : Cx} {e a b c : Expr} {es : List Expr} {σ : St} {G G1 H : Hp} {d da db dc : PyData} {ds : List PyData} {pos p p2 p3 p4 py spos : Pos} {tg iter elt kx vx : Expr} {ifs : List Expr} {scope : Scope} {D : Ends} {y : Str}
theorem s_lc1f {α : Type} {x : Str} (o i : Nat) (xs : List α) (enc : α → PyData) (pr : α → Bool) (g : α → PyData) (hz : xs.length ≤ 100000) (hc : X.calm = true) (hN : X.N.Nodup) (ok : BlkOk X.N X.env.scope scope [(x, i)]) (hi : EI X (.Name x p) iter σ G (xs.map enc)) (s : Same G H)
    (ht : ∀ x ∈ xs, ∀ G3, Same G G3 → ∀ u, Dq G3 u (enc x) → InB X scope fun Y => ETs Y ifs ((σ.set i none).set i (some u)) G3 (pr x))
    (he : ∀ x ∈ xs, pr x = true → ∀ G3, Same G G3 → ∀ u, Dq G3 u (enc x) → InB X scope fun Y => ED Y elt ((σ.set i none).set i (some u)) G3 (g x))
    (k : ∀ v G2 H2, Ext G H G2 H2 → Dq G2 v (.list ((xs.filter pr).map g)) → D.nx (σ.set o (some v)) H2)
    (hsw : swapsWith (.ListComp elt [⟨.Name x p, iter, ifs, 0⟩] scope pos) (some (.Name y py)) spos.line X.env = pure true := by exact sw_true rfl rfl rfl rfl) (hs : ∀ x, foldedSetIterable iter X.env x = pure x := by intro _; rfl)
    (hy : X.N[o]? = some y := by rfl) (hyl : X.env.scope.names.lookup y = some .local := by rfl) (hii : X.N[i]? = some x := by rfl) (hx : scope.names.lookup x = some .local := by rfl) :
    WS X (.Assign [.Name y py] (.ListComp elt [⟨.Name x p, iter, ifs, 0⟩] scope pos) spos) D σ H :=
  s_lc o xs enc pr g (fun c G σ2 => ∃ u, Dq G u (enc c) ∧ σ2 = (σ.set i none).set i (some u)) [(x, i)] hz hc hN ok hsw hi (fun c _ G3 _ s0 H0 C cl fp => bnd_name i hN hii (.inl (loc_in hx)) (.inr (loc_in hx))) (by
    rintro c _ G3 σ2 ⟨u, _, rfl⟩
    exact wipe1 σ) (by
    rintro c hm G3 s3 σ2 ⟨u, hu, rfl⟩
    exact ht c hm G3 s3 u hu) (by
    rintro c hm hp G3 s3 σ2 ⟨u, hu, rfl⟩
    exact he c hm hp G3 s3 u hu) s k hy hyl hs
theorem s_lc1 {α : Type} {x : Str} (o i : Nat) (xs : List α) (enc : α → PyData) (g : α → PyData) (hz : xs.length ≤ 100000) (hc : X.calm = true) (hN : X.N.Nodup) (ok : BlkOk X.N X.env.scope scope [(x, i)]) (hi : EI X (.Name x p) iter σ G (xs.map enc)) (s : Same G H)
    (he : ∀ x ∈ xs, ∀ G3, Same G G3 → ∀ u, Dq G3 u (enc x) → InB X scope fun Y => ED Y elt ((σ.set i none).set i (some u)) G3 (g x))
    (k : ∀ v G2 H2, Ext G H G2 H2 → Dq G2 v (.list (xs.map g)) → D.nx (σ.set o (some v)) H2)
    (hsw : swapsWith (.ListComp elt [⟨.Name x p, iter, [], 0⟩] scope pos) (some (.Name y py)) spos.line X.env = pure true := by exact sw_true rfl rfl rfl rfl) (hs : ∀ x, foldedSetIterable iter X.env x = pure x := by intro _; rfl)
    (hy : X.N[o]? = some y := by rfl) (hyl : X.env.scope.names.lookup y = some .local := by rfl) (hii : X.N[i]? = some x := by rfl) (hx : scope.names.lookup x = some .local := by rfl) :
    WS X (.Assign [.Name y py] (.ListComp elt [⟨.Name x p, iter, [], 0⟩] scope pos) spos) D σ H :=
  s_lc1f o i xs enc (fun _ => true) g hz hc hN ok hi s (fun c _ G3 _ u _ s0 H0 C cl fp => ets_nil) (fun c hm _ => he c hm) (by rw [filter_yes]; exact k) hsw hs hy hyl hii hx
theorem s_lc2 {α : Type} {x z : Str} {k : Nat} (o i j : Nat) (xs : List α) (ea eb enc : α → PyData) (g : α → PyData) (hE : ∀ c ∈ xs, seqOf (enc c) = some [ea c, eb c]) (hz : xs.length ≤ 100000) (hc : X.calm = true) (hN : X.N.Nodup) (ok : BlkOk X.N X.env.scope scope [(x, i), (z, j)]) (hi : EI X (.Tuple [.Name x p2, .Name z p3] k p) iter σ G (xs.map enc)) (s : Same G H)
    (he : ∀ c ∈ xs, ∀ G3, Same G G3 → ∀ u w, Dq G3 u (ea c) → Dq G3 w (eb c) → InB X scope fun Y => ED Y elt ((((σ.set j none).set i none).set i (some u)).set j (some w)) G3 (g c))
    (kk : ∀ v G2 H2, Ext G H G2 H2 → Dq G2 v (.list (xs.map g)) → D.nx (σ.set o (some v)) H2)
    (hsw : swapsWith (.ListComp elt [⟨.Tuple [.Name x p2, .Name z p3] k p, iter, [], 0⟩] scope pos) (some (.Name y py)) spos.line X.env = pure true := by exact sw_true rfl rfl rfl rfl) (hs : ∀ x, foldedSetIterable iter X.env x = pure x := by intro _; rfl)
    (hy : X.N[o]? = some y := by rfl) (hyl : X.env.scope.names.lookup y = some .local := by rfl) (hii : X.N[i]? = some x := by rfl) (hx : scope.names.lookup x = some .local := by rfl) (hjj : X.N[j]? = some z := by rfl) (hzz : scope.names.lookup z = some .local := by rfl) :
    WS X (.Assign [.Name y py] (.ListComp elt [⟨.Tuple [.Name x p2, .Name z p3] k p, iter, [], 0⟩] scope pos) spos) D σ H :=
  s_lc o xs enc (fun _ => true) g (fun c G σ2 => ∃ v w, Dq G v (ea c) ∧ Dq G w (eb c) ∧ σ2 = (((σ.set j none).set i none).set i (some v)).set j (some w)) [(x, i), (z, j)] hz hc hN ok hsw hi (fun c hm G3 _ s0 H0 C cl fp => bnd_pr i j (hE c hm) hc hN hii (.inl (loc_in hx)) (.inr (loc_in hx)) hjj (.inl (loc_in hzz)) (.inr (loc_in hzz))) (by
    rintro c _ G3 σ2 ⟨u, w, _, _, rfl⟩
    exact wipe2 σ) (fun c _ G3 _ σ2 _ s0 H0 C cl fp => ets_nil) (by
    rintro c hm _ G3 s3 σ2 ⟨u, w, hu, hw, rfl⟩
    exact he c hm G3 s3 u w hu hw) s (by rw [filter_yes]; exact kk) hy hyl hs
end
end Wk
set_option maxHeartbeats 4000000
namespace Wk
open PySem PySem.Spec PyProof.Rows L2 Km PySem.Nt
/-! ### check_tasks -/
def tasksOf (line : List (Str × Str)) : List Str := line.map (·.1)
def missing (line : List (Str × Str)) (xs : List Str) : Option Str := xs.find? fun x => !decide (x ∈ tasksOf line)
/-- the error's way out -/
def Out (C : Addr) (n : Str) (G H : Hp) (E : XK) : Prop := ∀ G2 H2 d, Ext G H G2 H2 → H2 d = none → E (.ref C) (some d) (upd H2 d (.xd [(("name" : Str), .str n)]))
theorem Out.ext {C : Addr} {n : Str} {G H G2 H2 : Hp} {E : XK} (h : Out C n G H E) (x : Ext G H G2 H2) : Out C n G2 H2 E := fun G3 H3 d y => h G3 H3 d (x.trans y)
def SpCheck (C : Addr) : Sp := fun vs H Q E => ∃ G v1 v2 l sd line xs, vs = [v1, v2] ∧ Same G H ∧ Dq G v1 l ∧ Dq G v2 sd ∧ IsLine l line ∧ line.length ≤ 1000 ∧ seqOf sd = some (xs.map .str) ∧ xs.length ≤ 1000 ∧
  (missing line xs = none → RD G H .none Q) ∧ ∀ n, missing line xs = some n → Out C n G H E
theorem line_tasks {rows : List (PyData × Str × Str)} : (rows.map fun r => PyData.str r.2.1) = (tasksOf (rows.map (·.2))).map .str := by
  unfold tasksOf
  rw [List.map_map, List.map_map]
  rfl
section
variable {P : Program} {w : World} {K : PySem.W.Frag} {mg : Str → Option Value} {base : Heap} {C fI : Addr}
theorem ok_check_tasks {f : Addr} {fd : FuncData} (B : Bi mg) (F : Fun K "check_tasks" "check_tasks" scheck_tasks f fd) (T : NoTxt P K mg C fI) : FnOk P w K mg base (L2.CX P w) 3 f fd ["ready", "some"] (SpCheck C) := by
  refine defX_ok F ccheck_tasks (fun vs H Q E h => by obtain ⟨G, v1, v2, l, sd, line, xs, rfl, _⟩ := h; rfl) fun cdv A outer s H E vs Q hr h => ?_
  obtain ⟨G, v1, v2, l, sd, line, xs, rfl, sG, h1, h2, ⟨rows, e1, rfl, e3⟩, hl, es, hz, qn, qx⟩ := h
  have hl' : rows.length ≤ 1000 := by simpa using hl
  refine b_cons (s_lc2 2 4 5 rows (fun r => .str r.2.1) (fun r => .str r.2.2) (·.1) (fun r => .str r.2.1) e3 (by omega) rfl ccheck_tasks.nd (blk_ok ncheck_tasks (defScope scheck_tasks) _ _ (by decide +kernel)) (ei_seq e1 (ed_var 0 rfl h1)) sG (fun c hm G3 _ u w hu hw s0 H0 C cl fp => ed_var 4 rfl hu) fun v3 G3 H3 y3 h3 => ?_)
  rw [line_tasks] at h3
  generalize rows.map (·.2) = line at h3 qn qx hl
  refine b_one (s_for (G := G3) xs PyData.str (fun c G σ σ2 => ∃ v, Dq G v (.str c) ∧ σ2 = σ.set 3 (some v)) (fun i σ' G' H' => (∃ x, σ' = [some v1, some v2, some v3, x, none, none]) ∧ Ext G H G' H' ∧ missing line xs = missing line (xs.drop i))
    (passes_of rfl) rfl (ei_seq es (ed_var 1 rfl (h2.up y3.gg))) y3.gh (fun G1 H1 y => ⟨⟨none, rfl⟩, y3.trans y, rfl⟩) (fun i σ' G' H' h => h.2.1.gh) (fun c hc G3 s3 σ' => bnd_name 3 ccheck_tasks.nd) ?_ ?_)
  · rintro i c σ' G' H' G4 H4 σ2 hi ⟨⟨x0, rfl⟩, x1, eq⟩ s1 y ⟨v, hv, rfl⟩
    cases hv
    have x4 := x1.trans y
    rw [drop_at hi] at eq
    have cs : missing line (c :: xs.drop (i + 1)) = if c ∈ tasksOf line then missing line (xs.drop (i + 1)) else some c := by
      unfold missing
      rw [List.find?_cons]
      by_cases hc : c ∈ tasksOf line
      · simp [hc]
      · simp [hc]
    rw [cs] at eq
    refine b_one (s_if (k := !decide (c ∈ tasksOf line)) (et_ni rfl (ed_var 3 rfl (.str c)) (ed_var 2 rfl (h3.up (s1.trans y.gg)))) y.gh (fun hk G5 H5 y5 => ?_) fun hk G5 H5 y5 => b_nil ?_)
    · have hc : c ∉ tasksOf line := by simpa using hk
      rw [if_neg hc] at eq
      refine b_one (ws (ps_raiseNo rfl T hr (takes_of rfl rfl rfl rfl) pa) (wa (pa_cons pe pa_nil) (w_var 3 rfl ⟨_, rfl, fun d hd => ?_⟩)))
      exact qx c eq G5 H5 d (x4.trans y5) hd
    · have hc : c ∈ tasksOf line := by simpa using hk
      rw [if_pos hc] at eq
      exact ⟨G5, ⟨⟨_, rfl⟩, x4.trans y5, eq⟩, y5.gg⟩
  · rintro σ' G' H' ⟨⟨x0, rfl⟩, x1, eq⟩ s1
    rw [List.drop_length] at eq
    exact qn eq .non G' H' x1 .non
end
end Wk
set_option maxHeartbeats 4000000
namespace Wk
open PySem PySem.Spec PyProof.Rows L2 Km PySem.Nt
/-! ### sorted pairs -/
def leP (a b : Str × Str) : Bool := PySem.W.dataLe false (id : PyData → PyData) (prD a) (prD b)
def pSort (g : List (Str × Str)) : List (Str × Str) := g.mergeSort leP
theorem pSort_eq (g : List (Str × Str)) : dSort (g.map prD) = (pSort g).map prD := by
  unfold dSort pSort
  exact (PySem.W.sort_maps (r := leP) (s := PySem.W.dataLe false (id : PyData → PyData)) prD fun a _ b _ => rfl).symm
theorem pSort_perm (g : List (Str × Str)) : (pSort g).Perm g := List.mergeSort_perm _ _
theorem alike_prs (g : List (Str × Str)) : PySem.W.AllAlike (g.map prD) := PySem.W.AllAlike.of fun _ _ => rfl
theorem ok_prs (g : List (Str × Str)) : SrtOk (g.map prD) := .inl (PySem.W.Sortable.tuples fun b => ⟨_, _, rfl⟩)
theorem depth_prs (g : List (Str × Str)) : ∀ x ∈ g.map prD, x.depth ≤ 60 := fun x hx => by
  obtain ⟨z, _, rfl⟩ := List.mem_map.mp hx
  show PyData.depth (.tuple [.str z.1, .str z.2]) ≤ 60
  simp [PyData.depth, PyData.depthAll]
section
variable {X : Cx} {e a b c : Expr} {es : List Expr} {σ : St} {G G1 H : Hp} {d da db dc : PyData} {ds : List PyData} {pos p p2 p3 p4 : Pos} {ks : List (Str × List Str)} {line : List (Str × Str)} {U xs : List Str}
theorem ed_sortP {g : List (Str × Str)} (hu : X.A.units + 64 < cLine) (hd : seqOf d = some (g.map prD)) (hz : g.length ≤ 100000) (hm : X.mg "sorted" = none) (ha : ED X a σ G d) (hg : Gl X "sorted" := by rfl) (he : starEach [a] X.env = (false, eval a X.env) :: starEach [] X.env := by rfl) :
    ED X (.Call (.Name "sorted" p) [a] [] pos) σ G (.list ((pSort g).map prD)) := by
  rw [← pSort_eq]
  exact ed_sorted hu hd (alike_prs g) (ok_prs g) (by simpa using hz) (depth_prs g) hm ha hg he
theorem ev_matched (C : CalX X CX0 "matched" ["table", "some"] 10 SpMatched) (hr : Room 10 X.A) (ha : EV X a σ G (Tab (mayT ks line))) (hb : ED X b σ G d) (hd : seqOf d = some (xs.map .str)) (as : Asks ks line U xs) (hg : Gl X "matched" := by rfl)
    (he : starEach [a, b] X.env = (false, eval a X.env) :: starEach [b] X.env := by rfl) (he2 : starEach [b] X.env = (false, eval b X.env) :: starEach [] X.env := by rfl) (hpl : (backTo pos (starEach [b] X.env)).any (·.1) = false := by rfl) :
    EV X (.Call (.Name "matched" p) [a, b] [] pos) σ G (MatR (matchM (mayOf ks line) 8 xs [])) := fun H s Q q =>
  wcall (E := eN) C hr pasN (wa (pa_cons pe pa he) (ha H s _ fun v G2 H2 y r => eds_cons (hb.up y.gg) eds_nil he2 H2 y.gh _ fun vs G3 H3 y2 ps => by
    obtain ⟨u, rfl, h⟩ := ps.one
    exact ⟨G3, v, u, d, ks, line, U, xs, rfl, y2.gh, r.up y2.gg, h, hd, as, fun v G4 H4 x r => q v G4 H4 ((y.trans y2).trans x) r⟩)) hg (by decide) he hpl
theorem mat_non {o : Option (List (Str × Str))} {v : V} (h : MatR o G v) : decide (v = .non) = !o.isSome := by
  unfold MatR at h
  cases o with
  | none =>
    cases h
    rfl
  | some g =>
    obtain ⟨a, kvs, rfl, _⟩ := h
    rfl
theorem ed_notNM {o : Option (List (Str × Str))} (ha : EV X a σ G (MatR o)) (hb : ED X b σ G .none) : ED X (.Compare a [.IsNot] [b] pos) σ G (.bool o.isSome) := fun H s Q q =>
  we (pe_cmpR op_notN pe pe (nomark _)) (ha H s _ fun v G2 H2 y r => hb.up y.gg H2 y.gh _ fun w G3 H3 y2 p2 => by
    cases p2
    refine ⟨rfl, ?_⟩
    rw [mat_non r, Bool.not_not]
    exact q _ G3 H3 (y.trans y2) (.bl _))
theorem et_isNM {o : Option (List (Str × Str))} (ha : EV X a σ G (MatR o)) (hb : ED X b σ G .none) : ET X (.Compare a [.Is] [b] pos) σ G (!o.isSome) := fun H s Q q =>
  wt (pt_cmpR op_isN pe pe (nomark _)) (ha H s _ fun v G2 H2 y r => hb.up y.gg H2 y.gh _ fun w G3 H3 y2 p2 => by
    cases p2
    refine ⟨rfl, _, rfl, ?_⟩
    rw [mat_non r]
    exact q G3 H3 (y.trans y2))
end
/-- the arguments of those who ask for tasks -/
structure Book (G : Hp) (v1 v2 v3 : V) (ks : List (Str × List Str)) (line : List (Str × Str)) (xs : List Str) : Prop where
  b : ∃ b, Dq G v1 b ∧ IsBook b ks
  l : ∃ l, Dq G v2 l ∧ IsLine l line
  s : ∃ d, Dq G v3 d ∧ seqOf d = some (xs.map .str)
  fair : Fair ks line
  sz : xs.length ≤ 1000
theorem Book.up {G G2 : Hp} {v1 v2 v3 : V} {ks : List (Str × List Str)} {line : List (Str × Str)} {xs : List Str} (h : Book G v1 v2 v3 ks line xs) (s : Same G G2) : Book G2 v1 v2 v3 ks line xs :=
  ⟨let ⟨b, x, y⟩ := h.b; ⟨b, x.up s, y⟩, let ⟨b, x, y⟩ := h.l; ⟨b, x.up s, y⟩, let ⟨b, x, y⟩ := h.s; ⟨b, x.up s, y⟩, h.fair, h.sz⟩
section
variable {P : Program} {w : World} {K : PySem.W.Frag} {mg : Str → Option Value} {base : Heap} {C fI : Addr}
abbrev CheckAt (P : Program) (w : World) (K : PySem.W.Frag) (mg : Str → Option Value) (base : Heap) (C : Addr) (k : Nat) : Prop := Cal P w K mg base (L2.CX P w) "check_tasks" ["ready", "some"] k (SpCheck C)
/-- check_tasks(ready, some) -/
theorem w_check {X : Cx} {E : XK} {σ : St} {G H : Hp} {a b : Expr} {d l : PyData} {line : List (Str × Str)} {xs : List Str} {k : Nat} {p pos spos : Pos} {D : Ends} (Ck : CheckAt X.prog X.w X.K X.mg X.base C k) (hr : Room k X.A) (hx : Passes (L2.CX X.prog X.w) X E) (s : Same G H) (ha : ED X a σ G l) (hb : ED X b σ G d) (il : IsLine l line) (hl : line.length ≤ 1000) (hd : seqOf d = some (xs.map .str)) (hz : xs.length ≤ 1000)
    (qn : missing line xs = none → ∀ G2 H2, Ext G H G2 H2 → D.nx σ H2) (qx : ∀ n, missing line xs = some n → Out C n G H E) (hg : Gl X "check_tasks" := by rfl) (he : starEach [a, b] X.env = (false, eval a X.env) :: starEach [b] X.env := by rfl) (he2 : starEach [b] X.env = (false, eval b X.env) :: starEach [] X.env := by rfl) (hpl : (backTo pos (starEach [b] X.env)).any (·.1) = false := by rfl)
    (hs : swapsWith (.Call (.Name "check_tasks" p) [a, b] [] pos) none spos.line X.env = pure false := by rfl) : WS X (.Expr (.Call (.Name "check_tasks" p) [a, b] [] pos) spos) D σ H :=
  s_dropV (wcall (E := E) Ck hr hx (eds_cons ha (eds_cons hb eds_nil he2) he H s _ fun vs G2 H2 y ps => by
    obtain ⟨u1, u2, rfl, k1, k2⟩ := ps.two
    exact ⟨G2, u1, u2, l, d, line, xs, rfl, y.gh, k1, k2, il, hl, hd, hz, fun h v G3 H3 x r => qn h G3 H3 (y.trans x), fun n h => (qx n h).ext y⟩) hg (by decide) he hpl) hs
theorem ev_may {X : Cx} {σ : St} {G : Hp} {a b : Expr} {bd ld : PyData} {ks : List (Str × List Str)} {line : List (Str × Str)} {k : Nat} {p pos : Pos} (M : CalX X CX0 "may_table" ["book", "ready"] k SpMay) (hr : Room k X.A) (ha : ED X a σ G bd) (hb : ED X b σ G ld) (ib : IsBook bd ks) (il : IsLine ld line) (fair : Fair ks line) (hg : Gl X "may_table" := by rfl)
    (he : starEach [a, b] X.env = (false, eval a X.env) :: starEach [b] X.env := by rfl) (he2 : starEach [b] X.env = (false, eval b X.env) :: starEach [] X.env := by rfl) (hpl : (backTo pos (starEach [b] X.env)).any (·.1) = false := by rfl) : EV X (.Call (.Name "may_table" p) [a, b] [] pos) σ G (Tab (mayT ks line)) :=
  ev_call (E := eN) M hr pasN (eds_cons ha (eds_cons hb eds_nil he2) he) (fun G2 H2 vs Q _ s2 ps q2 => by
    obtain ⟨u1, u2, rfl, k1, k2⟩ := ps.two
    exact ⟨G2, u1, u2, bd, ld, ks, line, rfl, s2, k1, k2, ib, il, fair, q2⟩) hg (by decide) he hpl
def SpCan (C : Addr) : Sp := fun vs H Q E => ∃ G v1 v2 v3 ks line xs, vs = [v1, v2, v3] ∧ Same G H ∧ Book G v1 v2 v3 ks line xs ∧ (∀ n, missing line xs = some n → Out C n G H E) ∧
  (missing line xs = none → ∃ U, Asks ks line U xs ∧ RD G H (.bool (matchM (mayOf ks line) 8 xs []).isSome) Q)
theorem ok_can_seat {f : Addr} {fd : FuncData} (B : Bi mg) (F : Fun K "can_seat" "can_seat" scan_seat f fd) (Ck : CheckAt P w K mg base C 10) (M : CalN P w K mg base "may_table" ["book", "ready"] 10 SpMay) (Mt : CalN P w K mg base "matched" ["table", "some"] 10 SpMatched) : FnOk P w K mg base (L2.CX P w) 11 f fd ["book", "ready", "some"] (SpCan C) := by
  refine defX_ok F ccan_seat (fun vs H Q E h => by obtain ⟨G, v1, v2, v3, ks, line, xs, rfl, _⟩ := h; rfl) fun cdv A outer s H E vs Q hr h => ?_
  obtain ⟨G, v1, v2, v3, ks, line, xs, rfl, sG, bk, qx, qn⟩ := h
  obtain ⟨b, hb, ib⟩ := bk.b
  obtain ⟨l, hl, il⟩ := bk.l
  obtain ⟨d, hd, ed⟩ := bk.s
  refine b_cons (w_check (E := E) Ck hr (passes_call (takes_of rfl rfl rfl rfl) fun _ _ _ _ h => h) sG (ed_var 1 rfl hl) (ed_var 2 rfl hd) il bk.fair.size ed bk.sz (fun hn G2 H2 y => ?_) qx)
  obtain ⟨U, as, q⟩ := qn hn
  refine b_one (s_ret ?_ y.gh (RD.ext q y))
  exact ed_notNM (ev_matched Mt hr (ev_may M hr (ed_var 0 rfl (hb.up y.gg)) (ed_var 1 rfl (hl.up y.gg)) ib il bk.fair) (ed_var 2 rfl (hd.up y.gg)) ed as) ed_non
/-- the answer of a_seating -/
def seatsD : Option (List (Str × Str)) → PyData
  | none => .none
  | some g => .tuple ((pSort g).map prD)
def SpSeating (C : Addr) : Sp := fun vs H Q E => ∃ G v1 v2 v3 ks line xs, vs = [v1, v2, v3] ∧ Same G H ∧ Book G v1 v2 v3 ks line xs ∧ (∀ n, missing line xs = some n → Out C n G H E) ∧
  (missing line xs = none → ∃ U, Asks ks line U xs ∧ RD G H (seatsD (matchM (mayOf ks line) 8 xs [])) Q)
theorem ok_a_seating {f : Addr} {fd : FuncData} (B : Bi mg) (F : Fun K "a_seating" "a_seating" sa_seating f fd) (Ck : CheckAt P w K mg base C 10) (M : CalN P w K mg base "may_table" ["book", "ready"] 10 SpMay) (Mt : CalN P w K mg base "matched" ["table", "some"] 10 SpMatched) : FnOk P w K mg base (L2.CX P w) 11 f fd ["book", "ready", "some"] (SpSeating C) := by
  refine defX_ok F ca_seating (fun vs H Q E h => by obtain ⟨G, v1, v2, v3, ks, line, xs, rfl, _⟩ := h; rfl) fun cdv A outer s H E vs Q hr h => ?_
  obtain ⟨G, v1, v2, v3, ks, line, xs, rfl, sG, bk, qx, qn⟩ := h
  obtain ⟨b, hb, ib⟩ := bk.b
  obtain ⟨l, hl, il⟩ := bk.l
  obtain ⟨d, hd, ed⟩ := bk.s
  refine b_cons (w_check (E := E) Ck hr (passes_call (takes_of rfl rfl rfl rfl) fun _ _ _ _ h => h) sG (ed_var 1 rfl hl) (ed_var 2 rfl hd) il bk.fair.size ed bk.sz (fun hn G2 H2 y => ?_) qx)
  obtain ⟨U, as, q⟩ := qn hn
  have q2 := RD.ext q y
  refine b_cons (s_setE (R := MatR (matchM (mayOf ks line) 8 xs [])) 3 ca_seating.nd (ev_matched Mt hr (ev_may M hr (ed_var 0 rfl (hb.up y.gg)) (ed_var 1 rfl (hl.up y.gg)) ib il bk.fair) (ed_var 2 rfl (hd.up y.gg)) ed as) y.gh fun v G3 H3 y3 r => ?_)
  have q3 := RD.ext q2 y3
  have fits0 : Fits (mayOf ks line) [] := ⟨by simp, fun p hp => by simp at hp⟩
  cases em : matchM (mayOf ks line) 8 xs [] with
  | none =>
    rw [em] at r q3
    refine b_cons (s_if (k := true) (et_isNM (o := none) (ev_var 3 rfl r) ed_non) y3.gh (fun _ G4 H4 y4 => ?_) fun h => by cases h)
    exact b_one (s_ret ed_non y4.gh (RD.ext q3 y4))
  | some g =>
    rw [em] at r q3
    obtain ⟨_, pm⟩ := match_some as.gr.all as.u8 xs [] g fits0 em
    have gz : g.length ≤ 1000 := by
      have := pm.length_eq
      simp only [List.length_map, List.map_nil, List.append_nil] at this
      have := as.sz
      omega
    refine b_cons (s_if (k := false) (et_isNM (o := some g) (ev_var 3 rfl r) ed_non) y3.gh (fun h => by cases h) fun _ G4 H4 y4 => b_nil ?_)
    have r4 := ups_mat _ _ _ _ y4.gg r
    obtain ⟨fa, kvs, rfl, hfa, tk⟩ := r4
    refine b_one (s_ret ?_ y4.gh (RD.ext q3 y4))
    refine ed_tuple rfl B.tuple (ed_sortP (g := g) (d := .list (g.map prD)) hr.units rfl (by omega) B.sorted ?_)
    refine ev_lock (R := fun G v => Dq G v (.list (g.map prD))) (kvs := kvs) (r := fa) hfa (swaps_dq _) fun od => ?_
    exact ed_lc2 4 5 g (fun p => .str p.2) (fun p => .str p.1) (fun p => rowD (p.2, .str p.1)) prD (fun _ _ => rfl) (by omega) rfl ca_seating.nd (blk_ok na_seating (defScope sa_seating) _ _ (by decide +kernel))
      (EI.to (ei_items (r := fa) (od := od) (kvs := kvs) (t := foundT g) upd_same (tk.swap (nosq_d hfa)) (ev_var 3 rfl rfl)) (by unfold foundT; rw [List.map_map]; rfl)) fun p hp G5 _ u w hu hw s0 H0 C cl fp => ed_tup (eds_cons (ed_var 5 rfl hw) (eds_cons (ed_var 4 rfl hu) eds_nil)) (by show 2 ≤ 100000; decide)
end
end Wk
set_option maxHeartbeats 4000000
namespace Wk
open PySem PySem.Spec PyProof.Rows L2 Km PySem.Nt
/-! ### data compared: texts, pairs of texts -/
def sOk (x : Str) : Prop := PyData.strOk x = true
theorem Nm.ok {x : Str} (h : Nm x) : sOk x := by
  unfold sOk PyData.strOk
  rw [← Array.all_toList, List.all_eq_true]
  intro c hc
  have h2 := h.all c hc
  have : ∀ c ∈ letters, (decide (c < 0x110000)) = true := by decide +kernel
  exact this c h2
theorem lay_strs : ∀ xs : List Str, (∀ x ∈ xs, sOk x) → PyData.canLayAll0 (xs.map .str) = true
  | [], _ => by simp [PyData.canLayAll0]
  | x :: xs, h => by
    have h1 : PyData.strOk x = true := h x List.mem_cons_self
    simp [PyData.canLayAll0, PyData.canLay0, h1, lay_strs xs fun y hy => h y (List.mem_cons_of_mem _ hy)]
theorem dep_strs : ∀ xs : List Str, PyData.depthAll (xs.map .str) = 0
  | [] => by simp [PyData.depthAll]
  | x :: xs => by simp [PyData.depthAll, PyData.depth, dep_strs xs]
theorem shaped_of {d : PyData} (h1 : d.canLay0 = true) (h2 : d.depth ≤ 64) : SeqAt.shaped d = true := by
  show (d.canLay0 && decide (d.depth ≤ 64)) = true
  rw [h1, decide_eq_true h2]
  rfl
theorem shaped_strs {xs : List Str} (h : ∀ x ∈ xs, sOk x) : SeqAt.shaped (.tuple (xs.map .str)) = true :=
  shaped_of (by simp only [PyData.canLay0]; exact lay_strs xs h) (by simp only [PyData.depth]; rw [dep_strs]; decide)
theorem eqv_strs : ∀ xs ys : List Str, PyData.eqvAll (xs.map .str) (ys.map .str) = decide (xs = ys)
  | [], [] => by simp [PyData.eqvAll]
  | [], _ :: _ => by simp [PyData.eqvAll]
  | _ :: _, [] => by simp [PyData.eqvAll]
  | x :: xs, y :: ys => by
    simp only [List.map_cons, PyData.eqvAll, PyData.eqv, eqv_strs xs ys]
    by_cases h : x = y
    · subst h
      simp
    · have : (x == y) = false := by simpa using h
      simp [this, h]
theorem eqv_tstrs (xs ys : List Str) : PyData.eqv (.tuple (xs.map .str)) (.tuple (ys.map .str)) = decide (xs = ys) := by
  simp only [PyData.eqv]
  exact eqv_strs xs ys
theorem eqv_pr (p q : Str × Str) : PyData.eqv (prD p) (prD q) = decide (p = q) := by
  have h := eqv_tstrs [p.1, p.2] [q.1, q.2]
  refine h.trans ?_
  rcases p with ⟨a, b⟩
  rcases q with ⟨c, d⟩
  simp
theorem eqv_prs : ∀ xs ys : List (Str × Str), PyData.eqvAll (xs.map prD) (ys.map prD) = decide (xs = ys)
  | [], [] => by simp [PyData.eqvAll]
  | [], _ :: _ => by simp [PyData.eqvAll]
  | _ :: _, [] => by simp [PyData.eqvAll]
  | x :: xs, y :: ys => by
    simp only [List.map_cons, PyData.eqvAll, eqv_pr, eqv_prs xs ys]
    by_cases h : x = y <;> simp [h]
theorem eqv_tprs (xs ys : List (Str × Str)) : PyData.eqv (.tuple (xs.map prD)) (.tuple (ys.map prD)) = decide (xs = ys) := by
  simp only [PyData.eqv]
  exact eqv_prs xs ys
theorem lay_pr {p : Str × Str} (h1 : sOk p.1) (h2 : sOk p.2) : (prD p).canLay0 = true := by
  have h1' : PyData.strOk p.1 = true := h1
  have h2' : PyData.strOk p.2 = true := h2
  simp [prD, PyData.canLay0, PyData.canLayAll0, h1', h2']
def PrOk (g : List (Str × Str)) : Prop := ∀ p ∈ g, sOk p.1 ∧ sOk p.2
theorem lay_prs : ∀ g : List (Str × Str), PrOk g → PyData.canLayAll0 (g.map prD) = true
  | [], _ => by simp [PyData.canLayAll0]
  | p :: g, h => by
    have := h p List.mem_cons_self
    simp [PyData.canLayAll0, lay_pr this.1 this.2, lay_prs g fun y hy => h y (List.mem_cons_of_mem _ hy)]
theorem dep_pr (p : Str × Str) : (prD p).depth = 1 := by simp [prD, PyData.depth, PyData.depthAll]
theorem dep_prs : ∀ g : List (Str × Str), PyData.depthAll (g.map prD) ≤ 1
  | [] => by simp [PyData.depthAll]
  | p :: g => by
    have := dep_prs g
    have := dep_pr p
    simp only [List.map_cons, PyData.depthAll]
    omega
theorem shaped_prs {g : List (Str × Str)} (h : PrOk g) : SeqAt.shaped (.tuple (g.map prD)) = true :=
  shaped_of (by simp only [PyData.canLay0]; exact lay_prs g h) (by have := dep_prs g; simp only [PyData.depth]; omega)
theorem lay_tstrs {α : Type} (xs : List α) (g : α → List Str) (h : ∀ x ∈ xs, ∀ y ∈ g x, sOk y) : PyData.canLayAll0 (xs.map fun x => .tuple ((g x).map .str)) = true := by
  induction xs with
  | nil => simp [PyData.canLayAll0]
  | cons x xs ih =>
    simp only [List.map_cons, PyData.canLayAll0, PyData.canLay0, lay_strs _ (h x List.mem_cons_self), ih fun y hy => h y (List.mem_cons_of_mem _ hy), Bool.and_self]
theorem dep_tstrs {α : Type} (xs : List α) (g : α → List Str) : PyData.depthAll (xs.map fun x => .tuple ((g x).map .str)) ≤ 1 := by
  induction xs with
  | nil => simp [PyData.depthAll]
  | cons x xs ih =>
    simp only [List.map_cons, PyData.depthAll, PyData.depth, dep_strs]
    omega
theorem lay_tprs {α : Type} (xs : List α) (g : α → List (Str × Str)) (h : ∀ x ∈ xs, PrOk (g x)) : PyData.canLayAll0 (xs.map fun x => .tuple ((g x).map prD)) = true := by
  induction xs with
  | nil => simp [PyData.canLayAll0]
  | cons x xs ih =>
    simp only [List.map_cons, PyData.canLayAll0, PyData.canLay0, lay_prs _ (h x List.mem_cons_self), ih fun y hy => h y (List.mem_cons_of_mem _ hy), Bool.and_self]
theorem dep_tprs {α : Type} (xs : List α) (g : α → List (Str × Str)) : PyData.depthAll (xs.map fun x => .tuple ((g x).map prD)) ≤ 2 := by
  induction xs with
  | nil => simp [PyData.depthAll]
  | cons x xs ih =>
    have := dep_prs (g x)
    simp only [List.map_cons, PyData.depthAll, PyData.depth]
    omega
section
variable {X : Cx} {K : PySem.W.Frag} {e a b c : Expr} {es : List Expr} {σ : St} {G G1 H : Hp} {d da db dc : PyData} {ds : List PyData} {pos p p2 p3 p4 : Pos}
theorem od_inD (h1 : SeqAt.shaped d = true) (h2 : SeqAt.shaped (.list ds) = true) : OpD (rInD K) d (.list ds) (.bool (ds.any fun z => PyData.eqv z d)) := fun G H x y Q s p1 p2 q =>
  ⟨d, ds, Dq.dp _ _ (p1.up s), Dq.dp _ _ (p2.up s), h1, h2, q _ G H (Ext.refl s) (.bl _)⟩
theorem od_niD (h1 : SeqAt.shaped d = true) (h2 : SeqAt.shaped (.list ds) = true) : OpD (rNotInD K) d (.list ds) (.bool (!ds.any fun z => PyData.eqv z d)) := fun G H x y Q s p1 p2 q =>
  ⟨d, ds, Dq.dp _ _ (p1.up s), Dq.dp _ _ (p2.up s), h1, h2, q _ G H (Ext.refl s) (.bl _)⟩
/-- a datum in a list of data -/
theorem ed_inD (hu : X.A.units + 65 < cLine) (h1 : SeqAt.shaped d = true) (h2 : SeqAt.shaped (.list ds) = true) (ha : ED X a σ G d) (hb : ED X b σ G (.list ds)) (hm : behindInMarks .In b = false := by rfl) : ED X (.Compare a [.In] [b] pos) σ G (.bool (ds.any fun z => PyData.eqv z d)) := ed_cmp (op_inD hu) (od_inD h1 h2) ha hb hm
theorem et_niD (hu : X.A.units + 65 < cLine) (h1 : SeqAt.shaped d = true) (h2 : SeqAt.shaped (.list ds) = true) (ha : ED X a σ G d) (hb : ED X b σ G (.list ds)) (hm : behindInMarks .NotIn b = false := by rfl) : ET X (.Compare a [.NotIn] [b] pos) σ G (!ds.any fun z => PyData.eqv z d) := et_cmp (op_notInD hu) (od_niD h1 h2) ha hb hm
end
theorem hu65 {A : Around} {k : Nat} (hr : Room (k + 1) A) : A.units + 65 < cLine := by
  have := hr.un
  omega
section
variable {P : Program} {w : World} {K : PySem.W.Frag} {mg : Str → Option Value} {base : Heap} {C fI : Addr}
theorem flat_strs {d : PyData} {xs : List Str} (h : seqOf d = some (xs.map .str)) (hz : xs.length ≤ 1000) : flatN 3 d = true ∧ tupN 3 d = .tuple (xs.map .str) := by
  constructor
  · show (match seqOf d with | some ds => decide (ds.length ≤ 100000) && ds.all (flatN 2) | none => true) = true
    rw [h]
    simp only [Bool.and_eq_true, decide_eq_true_eq, List.all_eq_true]
    refine ⟨by rw [List.length_map]; omega, fun x hx => ?_⟩
    obtain ⟨z, _, rfl⟩ := List.mem_map.mp hx
    rfl
  · show (match seqOf d with | some ds => PyData.tuple (ds.map (tupN 2)) | none => d) = _
    rw [h]
    simp only [List.map_map]
    rfl
/-! ### is_seating_of -/
def SpSeatingOf (C : Addr) : Sp := fun vs H Q E => ∃ G v1 v2 v3 v4 ks line xs prs, vs = [v1, v2, v3, v4] ∧ Same G H ∧ Book G v1 v2 v3 ks line xs ∧ Dq G v4 (.tuple (prs.map prD)) ∧ missing line xs = none ∧ Seats ks line prs ∧ xs = sSort (prs.map (·.2)) ∧ RD G H (.bool true) Q
theorem ok_is_seating_of {f : Addr} {fd : FuncData} (B : Bi mg) (F : Fun K "is_seating_of" "is_seating_of" sis_seating_of f fd) (Ck : CheckAt P w K mg base C 10) (S : CalN P w K mg base "is_seating" ["book", "ready", "thing"] 10 (PureSp RSeat)) (So : CalN P w K mg base "set_of" ["some"] 10 (PureSp RSetOf)) (Tu : CalN P w K mg base "tupled" ["value"] 10 (SpTup 3)) :
    FnOk P w K mg base (L2.CX P w) 11 f fd ["book", "ready", "some", "thing"] (SpSeatingOf C) := by
  refine defX_ok F cis_seating_of (fun vs H Q E h => by obtain ⟨G, v1, v2, v3, v4, ks, line, xs, prs, rfl, _⟩ := h; rfl) fun cdv A outer s H E vs Q hr h => ?_
  obtain ⟨G, v1, v2, v3, v4, ks, line, xs, prs, rfl, sG, bk, hp, hn, st, ex, q⟩ := h
  obtain ⟨b, hb, ib⟩ := bk.b
  obtain ⟨l, hl, il⟩ := bk.l
  obtain ⟨d, hd, ed⟩ := bk.s
  have sz := st.sz
  refine b_cons (w_check (E := E) Ck hr (passes_call (takes_of rfl rfl rfl rfl) fun _ _ _ _ h => h) sG (ed_var 1 rfl hl) (ed_var 2 rfl hd) il bk.fair.size ed bk.sz (fun hn G2 H2 y => ?_) fun n h => by rw [hn] at h; cases h)
  have hb := hb.up y.gg
  have hl := hl.up y.gg
  have hd := hd.up y.gg
  have hp := hp.up y.gg
  refine b_one (s_ret ?_ y.gh (RD.ext q y))
  have nmx : ∀ x ∈ xs, sOk x := fun x hx => by
    rw [ex] at hx
    obtain ⟨p, hp, rfl⟩ := List.mem_map.mp ((sSort_perm _).mem_iff.mp hx)
    exact (st.nm p hp).2.ok
  refine ed_and (k := true) (ed_call (d := .bool true) (E := eN) S hr pasN (eds_cons (ed_var 0 rfl hb) (eds_cons (ed_var 1 rfl hl) (eds_cons (ed_var 3 rfl hp) eds_nil))) ⟨b, l, ks, line, prs, rfl, ib, il, bk.fair, st, rfl⟩) (fun _ => ed_one ?_) (fun h => by cases h)
  refine ED.to (ed_eq hr.units (shaped_strs nmx) (shaped_strs nmx) ?_ ?_) (by rw [eqv_tstrs]; simp)
  · rw [ex]
    refine ed_call (ds := [.list ((prs.map (·.2)).map .str)]) (E := eN) So hr pasN (eds_cons ?_ eds_nil) ⟨_, rfl, st.nd, by simpa using sz, rfl⟩
    exact ED.to (ed_lc2 4 5 prs (fun p => .str p.1) (fun p => .str p.2) prD (fun p => .str p.2) (fun _ _ => rfl) (by omega) rfl cis_seating_of.nd (blk_ok nis_seating_of (defScope sis_seating_of) _ _ (by decide +kernel)) (ei_seq rfl (ed_var 3 rfl hp)) fun p hp G3 _ u u2 hu hu2 s0 H0 C cl fp => ed_var 5 rfl hu2) (by rw [List.map_map]; rfl)
  · obtain ⟨f1, f2⟩ := flat_strs ed bk.sz
    rw [← f2]
    exact (ev_tupled Tu (hr.mono (by decide)) (ed_var 2 rfl hd) f1).dat fun G v r => r.dq f1
end
end Wk
set_option maxHeartbeats 4000000
/-! What changes some lists and dicts on its way. -/
namespace Wk
open PySem PySem.Spec PyProof.Rows L2
/-- all stands but what ms tells -/
structure ExtM (ms : Addr → Prop) (G H G2 H2 : Hp) : Prop where
  gg : Same G G2
  hh : ∀ b o, ¬ ms b → H b = some o → H2 b = some o
  gh : Same G2 H2
  out : ∀ b, H b ≠ none → G b = none → G2 b = none
  live : ∀ b, H b ≠ none → H2 b ≠ none
theorem Ext.m {ms : Addr → Prop} {G H G2 H2 : Hp} (x : Ext G H G2 H2) : ExtM ms G H G2 H2 := ⟨x.gg, fun b o _ e => x.hh b o e, x.gh, x.out, fun b h => Same.some x.hh h⟩
theorem ExtM.refl {ms : Addr → Prop} {G H : Hp} (s : Same G H) : ExtM ms G H G H := (Ext.refl s).m
theorem ExtM.trans {ms : Addr → Prop} {G H G2 H2 G3 H3 : Hp} (a : ExtM ms G H G2 H2) (b : ExtM ms G2 H2 G3 H3) : ExtM ms G H G3 H3 :=
  ⟨a.gg.trans b.gg, fun x o n e => b.hh x o n (a.hh x o n e), b.gh, fun x h1 h2 => b.out x (a.live x h1) (a.out x h1 h2), fun x h => b.live x (a.live x h)⟩
section
variable {X : Cx} {e a b c : Expr} {es : List Expr} {σ : St} {G G1 H : Hp} {d da db dc : PyData} {ds : List PyData} {pos p p2 p3 p4 : Pos} {tg iter elt : Expr} {scope : Scope}
/-- [elt for tg in iter], elt changes what ms tells and gives flat data -/
theorem lc_st {α : Type} {Q : VK} (ms : Addr → Prop) (xs : List α) (enc : α → PyData) (P : α → Hp → St → Prop) (J : Nat → Hp → List PyData → Prop) (own : List (Str × Nat)) (hz : xs.length ≤ 100000) (hc : X.calm = true) (hN : X.N.Nodup) (ok : BlkOk X.N X.env.scope scope own) (hi : EI X tg iter σ G (xs.map enc)) (s : Same G H)
    (m1 : ∀ b, ms b → H b ≠ none) (m2 : ∀ b, ms b → G b = none) (h0 : J 0 H [])
    (hst : ∀ i H' H3 acc, (∀ b, H b ≠ none → H3 b = H' b) → J i H' acc → J i H3 acc)
    (hb : ∀ x ∈ xs, ∀ G3, Same G G3 → InB X scope fun Y => Bnd Y tg (wipe σ (own.map (·.2))) G3 (enc x) (P x G3)) (hw : ∀ x ∈ xs, ∀ G3 σ2, P x G3 σ2 → wipe σ2 (own.map (·.2)) = wipe σ (own.map (·.2)))
    (he : ∀ i x, xs[i]? = some x → ∀ G3 H3 acc σ2, Same G G3 → Same G3 H3 → (∀ b, ms b → G3 b = none) → (∀ b, H b ≠ none → H3 b ≠ none) → J i H3 acc → P x G3 σ2 → InB X scope fun Y => ∀ Q : VK, (∀ v d H6, (∀ G, Dq G v d) → ExtM ms G3 H3 G3 H6 → J (i + 1) H6 (acc ++ [d]) → Q v H6) → WE Y elt σ2 H3 Q)
    (k : ∀ v G2 H2 acc, ExtM ms G H G2 H2 → J xs.length H2 acc → Dq G2 v (.list acc) → Q v H2) (hs : ∀ x, foldedSetIterable iter X.env x = pure x := by intro _; rfl) :
    WE X (.ListComp elt [⟨tg, iter, [], 0⟩] scope pos) σ H Q := by
  refine we (pe_lc (wi := WI X tg iter) (g := bG X scope tg) (tt := bT X scope []) (te := bE X scope elt) hc hN pi ok bGp bTp bEp hs) ?_
  refine hi H s _ fun I G1 H1 y0 gv D hD => ?_
  have g1D : G1 D = none := y0.gh.free hD
  have hHD : H D = none := y0.hh.free hD
  have msD : ¬ ms D := fun z => m1 D z hHD
  have m3 : ∀ b, ms b → G1 b = none := fun b z => y0.out b (m1 b z) (m2 b z)
  have flat : ∀ {acc : List V} {as : List PyData}, (∀ G, DqAll G acc as) → ∀ {v : V} {d : PyData}, (∀ G, Dq G v d) → ∀ G, DqAll G (acc ++ [v]) (as ++ [d]) := fun h _ _ hv G => DqAll.snoc (hv G) (h G)
  refine ⟨fun i m H' => m = xs.length - i ∧ i ≤ xs.length ∧ ∃ acc as, ExtM ms G1 H1 G1 H' ∧ H' D = some (.lst acc) ∧ (∀ G, DqAll G acc as) ∧ J i H' as ∧ acc.length ≤ i, ⟨_, rfl, Nat.zero_le _, [], [], ?_, upd_same, fun _ => .nil, hst _ _ _ _ (fun b h => ?_) (hst 0 H H1 [] (fun b h => ?_) h0), Nat.zero_le _⟩, ?_⟩
  · exact ⟨Same.refl _, fun b o n e => by rw [upd_ne (ne_of_none e hD)]; exact e, y0.gh.mut g1D, fun b h1 h2 => h2, fun b h => by
      by_cases z : b = D
      · subst z; rw [upd_same]; exact fun z => by cases z
      · rw [upd_ne z]; exact h⟩
  · rw [upd_ne (fun z => h (by rw [z]; exact hHD))]
  · cases q : H b with
    | none => exact absurd q h
    | some o => exact y0.hh b o q
  rintro i m H' ⟨rfl, hi', acc, as, yi, hDi, hA, hJ, hlen⟩
  have hl : (xs.map enc).length = xs.length := List.length_map _
  by_cases hlt : i < xs.length
  · refine .inr ⟨gv.go i G1 H' (Same.refl _) yi.gh (by rw [hl]; exact hlt), fun H7 => ∃ acc as, ExtM ms G1 H1 G1 H7 ∧ H7 D = some (.lst acc) ∧ (∀ G, DqAll G acc as) ∧ J (i + 1) H7 as ∧ acc.length ≤ i + 1, ?_, fun v H3 hy => ?_⟩
    · rintro H7 ⟨acc', as', a, b, c, d, e⟩
      exact ⟨xs.length - (i + 1), by omega, rfl, hlt, acc', as', a, b, c, d, e⟩
    · obtain ⟨d, G4, hd, y4, pd⟩ := gv.yld i G1 H' v H3 (Same.refl _) yi.gh (by rw [hl]; exact hlt) hy
      obtain ⟨x, hx, rfl⟩ : ∃ x, xs[i]? = some x ∧ enc x = d := by
        rw [List.getElem?_map] at hd
        cases e : xs[i]? with
        | none => rw [e] at hd; cases hd
        | some x => rw [e] at hd; exact ⟨x, rfl, Option.some.inj hd⟩
      have hm : x ∈ xs := List.mem_of_getElem? hx
      have sG : Same G G4 := y0.gg.trans y4.gg
      have live' : ∀ b, H b ≠ none → H' b ≠ none := fun b h => yi.live b (Same.some y0.hh h)
      have nD : H' D ≠ none := by rw [hDi]; exact fun z => by cases z
      have h3D : H3 D = some (.lst acc) := y4.hh _ _ hDi
      have J3 : J i H3 as := hst i H' H3 as (fun b h => by
        cases q : H' b with
        | none => exact absurd q (live' b h)
        | some o => exact y4.hh b o q) hJ
      intro s0 H0 C cl fp
      refine hb x hm G4 sG s0 H0 C cl fp H3 v y4.gh pd _ fun σ2 hP => ⟨hw x hm G4 σ2 hP, ?_⟩
      intro s0 H0 C cl fp
      refine wts pts_nil ?_
      simp only [↓reduceIte]
      intro s0 H0 C cl fp
      refine he i x hx G4 H3 as σ2 sG y4.gh (fun b z => y4.out b (live' b (m1 b z)) (m3 b z)) (fun b h => Same.some y4.hh (live' b h)) J3 hP s0 H0 C cl fp _ fun w dd H6 hw' x6 J6 => ?_
      have h6D : H6 D = some (.lst acc) := x6.hh _ _ msD h3D
      have s16 : Same G1 H6 := fun b o e => x6.gh b o (y4.gg b o e)
      refine ⟨acc, h6D, Nat.lt_of_le_of_lt (Nat.le_trans hlen (Nat.le_trans (Nat.le_of_lt hlt) hz)) (by decide), acc ++ [w], as ++ [dd], ⟨Same.refl _, fun b o n e => ?_, s16.mut g1D, fun b h1 h2 => h2, fun b h => ?_⟩, upd_same, flat hA hw', hst _ H6 _ _ (fun b h => by rw [upd_ne (fun z => h (by rw [z]; exact hHD))]) J6, by rw [List.length_append]; simpa using hlen⟩
      · have z : b ≠ D := ne_of_none e hD
        rw [upd_ne z]
        exact x6.hh b o n (y4.hh b o (yi.hh b o n e))
      · by_cases z : b = D
        · subst z; rw [upd_same]; exact fun z => by cases z
        · rw [upd_ne z]
          exact x6.live b (Same.some y4.hh (yi.live b h))
  · have e : i = xs.length := by omega
    subst e
    refine .inl ⟨gv.stop _ G1 H' (Same.refl _) yi.gh (by rw [hl]; exact Nat.le_refl _), k _ (upd G1 D (.lst acc)) H' as ((y0.m).trans ⟨Same.laid g1D, yi.hh, fun b o hb => ?_, fun b h1 h2 => ?_, yi.live⟩) hJ (.lst upd_same (hA _))⟩
    · by_cases z : b = D
      · subst z
        rw [upd_same] at hb
        cases hb
        exact hDi
      · rw [upd_ne z] at hb
        exact yi.gh b o hb
    · have z : b ≠ D := fun z => h1 (by rw [z]; exact hD)
      rw [upd_ne z]
      exact h2
theorem w_ev {R : Hp → V → Prop} {Q : VK} (h : EV X e σ G R) (s : Same G H) (q : ∀ v G2 H2, Ext G H G2 H2 → R G2 v → Q v H2) : WE X e σ H Q := h H s Q q
theorem w_ed {Q : VK} (h : ED X e σ G d) (s : Same G H) (q : ∀ v G2 H2, Ext G H G2 H2 → Dq G2 v d → Q v H2) : WE X e σ H Q := h H s Q q
theorem we_mono {Q Q' : VK} (h : WE X e σ H Q) (m : ∀ v H', Q v H' → Q' v H') : WE X e σ H Q' := ⟨fun pins s I => thn (h.run pins s I) fun u s' ⟨x, H', I', r, q⟩ => ⟨x, H', I', r, m x H' q⟩⟩
/-- a, b = x, y: by a pair that is made and taken apart -/
theorem s_pair {x y : Str} {k k2 : Nat} {D : Ends} (i j : Nat) (hc : X.calm = true) (hN : X.N.Nodup) (h : WE X a σ H fun v H1 => WE X b σ H1 fun w H2 => ∀ r, H2 r = none → D.nx ((σ.set i (some v)).set j (some w)) (upd H2 r (.tup [v, w])))
    (hi : X.N[i]? = some x := by rfl) (hx : Loc X.env.scope x := by first | exact .inl rfl | exact .inr rfl) (hf : X.fn x = true ∨ X.env.scope.names.lookup x = some .local := by first | exact .inl rfl | exact .inr rfl)
    (hj : X.N[j]? = some y := by rfl) (hy : Loc X.env.scope y := by first | exact .inl rfl | exact .inr rfl) (hf2 : X.fn y = true ∨ X.env.scope.names.lookup y = some .local := by first | exact .inl rfl | exact .inr rfl)
    (hn : (assignEach [.Name x p2, .Name y p3] X.env).length = 2 := by rfl) (hst : (assignEach [.Name x p2, .Name y p3] X.env).findIdx? (·.1) = none := by rfl)
    (h1 : (assignEach [.Name x p2, .Name y p3] X.env).map (·.2) = assign (.Name x p2) X.env :: (assignEach [.Name y p3] X.env).map (·.2) := by rfl) (h2 : (assignEach [.Name y p3] X.env).map (·.2) = assign (.Name y p3) X.env :: (assignEach [] X.env).map (·.2) := by rfl)
    (hs : swapsWithSole [.Tuple [.Name x p2, .Name y p3] k p] (.Tuple [a, b] k2 p4) pos.line X.env = pure false := by rfl) (hw : swappedStores [.Tuple [.Name x p2, .Name y p3] k p] (.Tuple [a, b] k2 p4) X.env = pure none := by rfl)
    (h3 : (assignEach [.Tuple [.Name x p2, .Name y p3] k p] X.env).map (·.2) = [assign (.Tuple [.Name x p2, .Name y p3] k p) X.env] := by rfl) (n1 : starEach [a, b] X.env = (false, eval a X.env) :: starEach [b] X.env := by rfl) (n2 : starEach [b] X.env = (false, eval b X.env) :: starEach [] X.env := by rfl) :
    WS X (.Assign [.Tuple [.Name x p2, .Name y p3] k p] (.Tuple [a, b] k2 p4) pos) D σ H := by
  have names := pgs_cons (X := X) (pg_name (i := i) (pos := p2) hN hi hx hf) (pgs_cons (pg_name (i := j) (pos := p3) hN hj hy hf2) pgs_nil h2) h1
  refine ws (ps_asg (pe_tup (pa_cons pe (pa_cons pe pa_nil n2) n1)) (pg_tup hc names hn hst) hs hw h3) ?_
  exact we_mono h fun v H1 h1 => we_mono h1 fun w H2 h2 => ⟨by show 2 ≤ sizeLine; decide, fun r hr => ⟨r, [v, w], rfl, .of upd_same, rfl, v, [w], rfl, w, [], rfl, rfl, h2 r hr⟩⟩
/-- .. by two stores, the second first -/
theorem s_par {x y : Str} {k k2 : Nat} {D : Ends} (i j : Nat) (hc : X.calm = true) (hN : X.N.Nodup) (hij : i ≠ j) (h : WE X a σ H fun v H1 => WE X b σ H1 fun w H2 => D.nx ((σ.set i (some v)).set j (some w)) H2)
    (hi : X.N[i]? = some x := by rfl) (hx : X.env.scope.names.lookup x = some .local := by rfl) (hj : X.N[j]? = some y := by rfl) (hy : X.env.scope.names.lookup y = some .local := by rfl)
    (hw : swappedStores [.Tuple [.Name x p2, .Name y p3] k p] (.Tuple [a, b] k2 p4) X.env = pure (some [x, y]) := by rfl) (hs : swapsWithSole [.Tuple [.Name x p2, .Name y p3] k p] (.Tuple [a, b] k2 p4) pos.line X.env = pure false := by rfl)
    (n1 : starEach [a, b] X.env = (false, eval a X.env) :: starEach [b] X.env := by rfl) (n2 : starEach [b] X.env = (false, eval b X.env) :: starEach [] X.env := by rfl) :
    WS X (.Assign [.Tuple [.Name x p2, .Name y p3] k p] (.Tuple [a, b] k2 p4) pos) D σ H :=
  ws (ps_par hc hN hi hj hij hx hy (pa_cons pe (pa_cons pe pa_nil n2) n1) hw hs) (we_mono h fun v H1 h1 => we_mono h1 fun w H2 h2 => ⟨v, w, rfl, h2⟩)
end
end Wk
set_option maxHeartbeats 4000000
namespace Wk
open PySem PySem.Spec PyProof.Rows L2 Km PySem.Nt
theorem most_cons {C T : Type} [DecidableEq C] [DecidableEq T] (mask : T → List C) (n : Nat) (t : T) (ts : List T) (f : List (C × T)) : mostM mask n (t :: ts) f = match seatM mask n f t [] with
    | (true, f2, _) => ((mostM mask n ts f2).1 + 1, (mostM mask n ts f2).2)
    | (false, f2, _) => mostM mask n ts f2 := by
  conv => lhs; unfold mostM
  try rfl
section
variable {P : Program} {w : World} {K : PySem.W.Frag} {mg : Str → Option Value} {base : Heap} {C fI : Addr}
def SpMost : Sp := fun vs H Q _ => ∃ G v1 v2 b l ks line U, vs = [v1, v2] ∧ Same G H ∧ Dq G v1 b ∧ Dq G v2 l ∧ IsBook b ks ∧ IsLine l line ∧ Fair ks line ∧ Ground ks line U ∧ U.length ≤ 8 ∧ RD G H (.int ((mostM (mayOf ks line) 8 (tasksOf line) []).1 : Nat)) Q
theorem ok_most_seated {f : Addr} {fd : FuncData} (B : Bi mg) (F : Fun K "most_seated" "most_seated" smost_seated f fd) (M : CalN P w K mg base "may_table" ["book", "ready"] 9 SpMay) (S : CalN P w K mg base "seat" ["table", "found", "task", "tried"] 9 (SpSeat 8)) : FnOk P w K mg base CX0 10 f fd ["book", "ready"] SpMost := by
  refine def_ok F cmost_seated (fun vs H Q E h => by obtain ⟨G, v1, v2, b, l, ks, line, U, rfl, _⟩ := h; rfl) fun cdv A outer s H E vs Q hr h => ?_
  obtain ⟨G, v1, v2, b, l, ks, line, U, rfl, sG, h1, h2, ib, il, fair, gr, u8, q⟩ := h
  obtain ⟨rows, e1, el, e3⟩ := id il
  refine b_cons (s_pair 2 3 rfl cmost_seated.nd (w_ev (ev_may M hr (ed_var 0 rfl h1) (ed_var 1 rfl h2) ib il fair) sG fun tv G1 H1 y1 hT => ?_))
  refine we pe_dnewK fun fa hfa => ?_
  intro r hr'
  have gfa : G1 fa = none := y1.gh.free hfa
  have nr : r ≠ fa := fun z => by rw [z, upd_same] at hr'; cases hr'
  have hr1 : H1 r = none := by
    rw [upd_ne nr] at hr'
    exact hr'
  generalize hH2 : upd (upd H1 fa (.dK [])) r (.tup [tv, .ref fa]) = H2
  have s2 : Same G1 H2 := by
    rw [← hH2]
    exact (y1.gh.mut gfa).mut ((y1.gh.mut gfa).free hr')
  have hf2 : H2 fa = some (.dK []) := by rw [← hH2, upd_ne (Ne.symm nr), upd_same]
  have x12 : Ext G H G1 H2 := ⟨y1.gg, fun b o e => by
    have e1 := y1.hh b o e
    rw [← hH2, upd_ne (ne_of_none e1 hr1), upd_ne (ne_of_none e1 hfa)]
    exact e1, s2, fun b k1 k2 => y1.out b k1 k2⟩
  have hHfa : H fa = none := y1.hh.free hfa
  have hl : rows.length ≤ 1000 := by have := fair.size; rw [el] at this; simpa using this
  have tk : tasksOf line = rows.map fun r => r.2.1 := by rw [el]; unfold tasksOf; rw [List.map_map]; rfl
  refine b_one (s_retV ?_)
  refine we (pe_callB (cr_sum rfl) rfl B.sum (by decide +kernel) pa (by decide) (by decide) rfl rfl) (wa (pa_cons pe pa_nil) ?_)
  refine lc_st (G := G1) (fun b => b = fa) rows (·.1) (fun r G σ2 => ∃ v w, Dq G v (.str r.2.1) ∧ Dq G w (.str r.2.2) ∧ σ2 = (([some v1, some v2, some tv, some (.ref fa), none, none] : L2.St).set 4 (some v)).set 5 (some w))
    (fun i H' acc => ∃ (f' : List (Str × Str)) (ns : List Int), H' fa = some (.dK (fD f')) ∧ Fits (mayOf ks line) f' ∧ (∀ p ∈ f', p.2 ∈ tasksOf line) ∧ acc = ns.map PyData.int ∧ ((mostM (mayOf ks line) 8 (tasksOf line) []).1 : Int) = ns.sum + ((mostM (mayOf ks line) 8 ((tasksOf line).drop i) f').1 : Nat))
    [("task", 4), ("kind", 5)] (by omega) rfl cmost_seated.nd (blk_ok nmost_seated (defScope smost_seated) _ _ (by decide +kernel)) (ei_seq e1 (ed_var 1 rfl (h2.up y1.gg))) s2 (fun b z => by rw [z, hf2]; exact fun z => by cases z) (fun b z => by rw [z]; exact gfa)
    ⟨[], [], hf2, ⟨by simp, fun p hp => by simp at hp⟩, fun p hp => by simp at hp, rfl, by simp⟩ (fun i H' H3 acc hh ⟨f', ns, a, b, c, d, e⟩ => ⟨f', ns, by rw [hh fa (by rw [hf2]; exact fun z => by cases z)]; exact a, b, c, d, e⟩)
    (fun x hx G3 _ s0 H0 C cl fp => bnd_pr 4 5 (e3 x hx) rfl cmost_seated.nd rfl (.inl (loc_in rfl)) (.inr (loc_in rfl)) rfl (.inl (loc_in rfl)) (.inr (loc_in rfl))) (by
      rintro x _ G3 σ2 ⟨v, w, _, _, rfl⟩
      rfl) ?_ ?_
  · rintro i x hx G3 H3 acc σ2 sG3 s3 m3 live ⟨f', ns, hf', fit, own, rfl, eq⟩ ⟨v, w, hv, hw, rfl⟩ s0 H0 C cl fp Q' kq
    cases hv
    cases hw
    have ht : (tasksOf line)[i]? = some x.2.1 := by rw [tk, List.getElem?_map, hx]; rfl
    have htl : x.2.1 ∈ line.map (·.1) := List.mem_of_getElem? ht
    rw [drop_at ht, most_cons] at eq
    have rm : room U ([] : List Str) ≤ 8 := room_nil u8
    have good := seat_good (U := U) gr.all 8 f' x.2.1 [] fit rm
    refine we (pe_callTy call_int1 rfl B.int (by decide +kernel) pa (by decide) (by decide) rfl rfl) (wa (pa_cons pe pa_nil) ?_)
    refine wcall (E := eN) S hr pasN (wa (pa_cons pe pa) (w_var 2 rfl (wa (pa_cons pe pa) (w_var 3 rfl (wa (pa_cons pe pa) (w_var 4 rfl (wa (pa_cons pe pa_nil) (we (pe_lst pa) (wa pa_nil ⟨Nat.zero_le _, fun ta hta => ?_⟩)))))))))
    have k1 : G3 fa = none := m3 fa rfl
    have k2 : G3 ta = none := s3.free hta
    have hne : fa ≠ ta := fun z => by rw [← z, hf'] at hta; cases hta
    refine ⟨G3, tv, fa, ta, x.2.1, ks, line, U, f', [], rfl, s3.mut k2, hT.up sG3, k1, k2, hne, by rw [upd_ne hne]; exact hf', upd_same, htl, gr, ⟨fit, own, List.nodup_nil, fun c hc => by simp at hc, rm⟩, fun H5 hf5 ht5 bt5 => ?_⟩
    rcases hres : seatM (mayOf ks line) 8 f' x.2.1 [] with ⟨b5, f5, tr5⟩
    rw [hres] at hf5 ht5 good eq
    have x5 : ExtM (fun b => b = fa) G3 H3 G3 H5 := ⟨Same.refl _, fun b o n e => by
      have n2 : b ≠ ta := fun z => by rw [z, hta] at e; cases e
      exact bt5 b o n n2 (by rw [upd_ne n2]; exact e), bt5.same (s3.mut k2) k1 k2, fun b h1 h2 => h2, fun b h => by
      by_cases z : b = fa
      · rw [z, hf5]; exact fun z => by cases z
      · cases e : H3 b with
        | none => exact absurd e h
        | some o =>
          have n2 : b ≠ ta := fun z => by rw [z, hta] at e; cases e
          rw [bt5 b o z n2 (by rw [upd_ne n2]; exact e)]
          exact fun z => by cases z⟩
    refine .inr ⟨b5, rfl, kq _ (.int (if b5 then 1 else 0)) H5 (fun G => by cases b5 <;> exact .int _) x5 ⟨f5, ns ++ [if b5 then 1 else 0], hf5, ?_, ?_, by rw [List.map_append]; rfl, ?_⟩⟩
    · cases b5 with
      | true => exact (good.yes rfl).1
      | false =>
        have n1 := (good.no rfl).1
        dsimp only at n1
        rw [n1]
        exact fit
    · cases b5 with
      | true =>
        intro p hp
        rcases List.mem_cons.mp ((good.yes rfl).2.1.mem_iff.mp (List.mem_map.mpr ⟨p, hp, rfl⟩)) with h | h
        · rw [h]
          exact htl
        · obtain ⟨p', hp', e⟩ := List.mem_map.mp h
          rw [← e]
          exact own p' hp'
      | false =>
        have n1 := (good.no rfl).1
        dsimp only at n1
        rw [n1]
        exact own
    · cases b5 with
      | true =>
        dsimp only at eq
        rw [eq, List.sum_append]
        simp
        omega
      | false =>
        dsimp only at eq
        rw [eq, List.sum_append]
        simp
  · rintro v G4 H4 acc x4 ⟨f', ns, hf', _, _, rfl, eq⟩ hv
    have ln : (tasksOf line).length = rows.length := by rw [tk, List.length_map]
    rw [← ln, List.drop_length] at eq
    have eq' : ((mostM (mayOf ks line) 8 (tasksOf line) []).1 : Int) = ns.sum := by
      rw [eq]
      show ns.sum + ((0 : Nat) : Int) = ns.sum
      simp
    cases hv with
    | lst hl1 hl2 =>
      cases DqAll.of_ints hl2
      refine ⟨_, ns, rfl, .of (x4.gh _ _ hl1), q _ G4 H4 ⟨x12.gg.trans x4.gg, fun b o e => x4.hh b o (fun z => by rw [z, hHfa] at e; cases e) (x12.hh b o e), x4.gh, fun b h1 h2 => x4.out b (Same.some x12.hh h1) (x12.out b h1 h2)⟩ ?_⟩
      rw [eq']
      exact .int _
end
end Wk
set_option maxHeartbeats 4000000
/-! The urn: box, take, of. -/
namespace Wk
open PySem PySem.Spec PyProof.Rows L2 Km PySem.Nt
/-- all but ua stands -/
def Bar (ua : Addr) (H H2 : Hp) : Prop := ∀ b o, b ≠ ua → H b = some o → H2 b = some o
theorem Bar.refl {ua : Addr} (H : Hp) : Bar ua H H := fun _ _ _ e => e
theorem Bar.trans {ua : Addr} {H H2 H3 : Hp} (a : Bar ua H H2) (b : Bar ua H2 H3) : Bar ua H H3 := fun c o h e => b c o h (a c o h e)
theorem Bar.ext {ua : Addr} {G H G2 H2 : Hp} (x : Ext G H G2 H2) : Bar ua H H2 := fun b o _ e => x.hh b o e
theorem Bar.same {ua : Addr} {G H H2 : Hp} (s : Same G H) (h : G ua = none) (a : Bar ua H H2) : Same G H2 := fun b o e => a b o (ne_of_none e h) (s b o e)
theorem Bar.upd {ua : Addr} {H : Hp} {o : HO} : Bar ua H (upd H ua o) := fun b o h e => by rw [upd_ne h]; exact e
/-- at most n takes were made by the counter -/
def Urn (n : Nat) (ua : Addr) (H : Hp) : Prop := ∃ a b c : Int, H ua = some (.lst [.int a, .int b, .int c]) ∧ 0 ≤ a ∧ 0 ≤ b ∧ b < 2 ^ 62 ∧ 0 ≤ c ∧ c ≤ n ∧ n < 1000000000
theorem Urn.ne {n : Nat} {ua : Addr} {H : Hp} (u : Urn n ua H) : H ua ≠ none := by
  obtain ⟨a, b, c, h, _⟩ := u
  rw [h]
  exact fun z => by cases z
theorem Urn.up {n : Nat} {ua : Addr} {H H2 : Hp} (u : Urn n ua H) (h : ∀ o, H ua = some o → H2 ua = some o) : Urn n ua H2 := by
  obtain ⟨a, b, c, e, r⟩ := u
  exact ⟨a, b, c, h _ e, r⟩
theorem Urn.more {n m : Nat} {ua : Addr} {H : Hp} (u : Urn n ua H) (h : n ≤ m) (hm : m < 1000000000) : Urn m ua H := by
  obtain ⟨a, b, c, e, r1, r2, r3, r4, r5, r6⟩ := u
  exact ⟨a, b, c, e, r1, r2, r3, r4, by omega, hm⟩
def oneG (ua : Addr) (o : HO) : Hp := fun b => if b = ua then some o else none
theorem oneG_at {ua : Addr} {o : HO} : oneG ua o ua = some o := if_pos rfl
theorem oneG_same {ua : Addr} {o : HO} {H : Hp} (h : H ua = some o) : Same (oneG ua o) H := fun b u e => by
  unfold oneG at e
  by_cases z : b = ua
  · subst z
    rw [if_pos rfl] at e
    cases e
    exact h
  · rw [if_neg z] at e
    cases e
section
variable {X : Cx} {σ : St} {H : Hp} {p p2 pos pos' : Pos} {D : Ends} {o i e : Expr}
/-- o[i] = e, o a list that may change -/
theorem s_put {ua : Addr} {xs : List V} {k : Int} {j : Nat} (h : WE X e σ H fun v H1 => WE X o σ H1 fun u H2 => u = .ref ua ∧ WE X i σ H2 fun y H3 => y = .int k ∧ H3 ua = some (.lst xs) ∧ ixN xs.length k = some j ∧ D.nx σ (upd H3 ua (.lst (xs.set j v))))
    (hs : swapsWithSole [.Subscript o i pos'] e pos.line X.env = pure false := by rfl) (hw : swappedStores [.Subscript o i pos'] e X.env = pure none := by rfl) (h1 : (assignEach [.Subscript o i pos'] X.env).map (·.2) = [assign (.Subscript o i pos') X.env] := by rfl)
    (ha : ∀ v, assign (.Subscript o i pos') X.env v = (do
      let ov ← holding [v] (eval o X.env)
      let iv ← holding [v, ov] (eval i X.env)
      standAt pos'
      holding [v, ov, iv] (setItem ov iv v)
      release [v, ov, iv] []) := by intro _; rfl) : WS X (.Assign [.Subscript o i pos'] e pos) D σ H :=
  ws (ps_asg pe (pg_sub pe pe set_list ha) hs hw h1) (we_mono h fun v H1 h1 => we_mono h1 fun u H2 ⟨e1, h2⟩ => we_mono h2 fun y H3 ⟨e2, h3, h4, h5⟩ => ⟨ua, xs, k, j, e1, e2, h3, h4, h5⟩)
end
section
variable {P : Program} {w : World} {K : PySem.W.Frag} {mg : Str → Option Value} {base : Heap}
def SpTake : Sp := fun vs H Q _ => ∃ (n : Nat) (ua : Addr) (low : Int), vs = [.ref ua, .int low] ∧ Urn n ua H ∧ 0 < low ∧ low < 1073741824 ∧ n + 1 < 1000000000 ∧ ∀ r H2, 0 ≤ r → r < low → Urn (n + 1) ua H2 → Bar ua H H2 → Q (.int r) H2
theorem ok_take {f : Addr} {fd : FuncData} (B : Bi mg) (F : Fun K "_law_take" "_law_take" s_law_take f fd) : FnOk P w K mg base CX0 1 f fd ["_law_urn", "_law_low_so"] SpTake := by
  refine def_ok F c_law_take (fun vs H Q E h => by obtain ⟨n, ua, low, rfl, _⟩ := h; rfl) fun cdv A outer s H E vs Q hr h => ?_
  obtain ⟨n, ua, low, rfl, ⟨a, b, c, hua, ha, hb, hb2, hc, hcn, hn⟩, hl, hl2, hn1, q⟩ := h
  have dq : ∀ a b c : Int, Dq (oneG ua (.lst [.int a, .int b, .int c])) (.ref ua) (.list [.int a, .int b, .int c]) := fun a b c => .lst oneG_at (.cons (.int a) (.cons (.int b) (.cons (.int c) .nil)))
  refine b_cons (s_if (G := oneG ua (.lst [.int a, .int b, .int c])) (k := decide (0 < a)) (et_gt (ed_ix (i := 0) rfl rfl (ed_var 0 rfl (dq a b c)) ed_int) ed_int) (oneG_same hua) (fun hk G1 H1 y1 => ?_) fun hk G1 H1 y1 => b_nil ?_)
  · have u1 := y1.hh _ _ hua
    refine b_cons (s_set 2 c_law_take.nd (ed_mod hl (ed_intI B.int (ed_ix (i := 0) rfl rfl (ed_var 0 rfl (dq a b c)) ed_int)) (ed_var 1 rfl (.int low))) (oneG_same u1) fun v G2 H2 y2 hv => ?_)
    have u2 := y2.hh _ _ u1
    cases hv
    refine b_cons (s_put (ua := ua) (k := 0) (j := 0) (xs := [.int a, .int b, .int c]) (w_ed (ed_div ⟨hl, hl2⟩ (ed_ix (i := 0) rfl rfl (ed_var 0 rfl (dq a b c)) ed_int) (ed_var 1 rfl (.int low))) (oneG_same u2) fun v G3 H3 y3 hv => w_var 0 rfl ⟨rfl, we pe_int ⟨rfl, y3.hh _ _ u2, rfl, ?_⟩⟩))
    cases hv
    refine b_one (s_retV (w_var 2 rfl ?_))
    refine q _ _ (Int.emod_nonneg _ (by omega)) (Int.emod_lt_of_pos _ hl) ⟨a / low, b, c, upd_same, Int.ediv_nonneg ha (by omega), hb, hb2, hc, by omega, hn1⟩ ?_
    exact ((Bar.ext y1).trans ((Bar.ext y2).trans (Bar.ext y3))).trans Bar.upd
  · have u1 := y1.hh _ _ hua
    refine b_cons (s_put (ua := ua) (k := 2) (j := 2) (xs := [.int a, .int b, .int c]) (w_ed (ed_add (ed_ix (i := 2) rfl rfl (ed_var 0 rfl (dq a b c)) ed_int) ed_int) (oneG_same u1) fun v G3 H3 y3 hv => w_var 0 rfl ⟨rfl, we pe_int ⟨rfl, y3.hh _ _ u1, rfl, ?_⟩⟩))
    cases hv
    generalize hH4 : upd H3 ua (.lst ([.int a, .int b, .int c].set 2 (.int (c + 1)))) = H4
    have u4 : H4 ua = some (.lst [.int a, .int b, .int (c + 1)]) := by rw [← hH4, upd_same]; rfl
    have bar4 : Bar ua H H4 := by
      rw [← hH4]
      exact ((Bar.ext y1).trans (Bar.ext y3)).trans Bar.upd
    generalize hc1 : c + 1 = c1 at u4
    have hc1a : 0 ≤ c1 := by omega
    have hc1b : c1 ≤ n + 1 := by omega
    have mul : ∀ x y : Int, -(2 ^ 64) < y → y < 2 ^ 64 → CMul x y := fun x y h1 h2 => .inr ⟨h1, h2⟩
    have d4 := dq a b c1
    refine b_cons (s_set 3 c_law_take.nd (ed_mod (by decide) (ed_intI B.int (ed_mul (mul _ _ (by omega) (by omega)) (ed_add (ed_ix (i := 1) rfl rfl (ed_var 0 rfl d4) ed_int) (ed_mul (.inl ⟨by decide, by decide⟩) ed_int (ed_ix (i := 2) rfl rfl (ed_var 0 rfl d4) ed_int))) (ed_add ed_int (ed_ix (i := 2) rfl rfl (ed_var 0 rfl d4) ed_int)))) ed_int) (oneG_same u4) fun v G5 H5 y5 hv => ?_)
    cases hv
    generalize hon : ((b + 48271 * c1) * (39373 + c1)) % 2147483647 = once
    have u5 := y5.hh _ _ u4
    refine b_cons (s_set 4 c_law_take.nd (ed_add (ed_mod (by decide) (ed_intI B.int (ed_var 3 rfl (.int once))) ed_int) ed_int) (oneG_same u5) fun v G6 H6 y6 hv => ?_)
    cases hv
    have hfar : 0 ≤ once % 40009 ∧ once % 40009 < 40009 := ⟨Int.emod_nonneg _ (by decide), Int.emod_lt_of_pos _ (by decide)⟩
    generalize hfr : once % 40009 + 7 = far
    have u6 := y6.hh _ _ u5
    refine b_cons (s_set 5 c_law_take.nd (ed_mod (by decide) (ed_intI B.int (ed_mul (mul _ _ (by omega) (by omega)) (ed_add (ed_add (ed_var 3 rfl (.int once)) (ed_ix (i := 2) rfl rfl (ed_var 0 rfl d4) ed_int)) (ed_div ⟨by decide, by decide⟩ (ed_ix (i := 1) rfl rfl (ed_var 0 rfl d4) ed_int) ed_int)) (ed_var 4 rfl (.int far)))) ed_int) (oneG_same u6) fun v G7 H7 y7 hv => ?_)
    cases hv
    generalize ((once + c1 + b / 1000003) * far) % 2147483629 = twice
    have u7 := y7.hh _ _ u6
    refine b_one (s_retV (w_ed (ed_mod hl (ed_intI B.int (ed_div ⟨by decide, by decide⟩ (ed_mod (by decide) (ed_intI B.int (ed_add (ed_mul (mul _ _ (by decide) (by decide)) (ed_var 5 rfl (.int twice)) ed_int) (ed_var 3 rfl (.int once)))) ed_int) ed_int)) (ed_var 1 rfl (.int low))) (oneG_same u7) fun v G8 H8 y8 hv => ?_))
    cases hv
    refine q _ _ (Int.emod_nonneg _ (by omega)) (Int.emod_lt_of_pos _ hl) ⟨a, b, c1, y8.hh _ _ u7, ha, hb, hb2, hc1a, by omega, hn1⟩ ?_
    exact bar4.trans ((Bar.ext y5).trans ((Bar.ext y6).trans ((Bar.ext y7).trans (Bar.ext y8))))
end
end Wk
set_option maxHeartbeats 4000000
/-! box, of, cells. -/
namespace Wk
open PySem PySem.Spec PyProof.Rows L2 Km PySem.Nt
theorem ixN_at {n j : Nat} (h : j < n) : ixN n (j : Int) = some j := by
  unfold ixN
  rw [if_pos (by omega), if_pos (by omega), Int.toNat_natCast]
theorem sqL_up {K : PySem.W.Frag} {H H' : Hp} {a : Addr} {xs : List V} (e : Same H H') (h : SqL K H a xs) : SqL K H' a xs := by
  rcases h with (h | ⟨o, h⟩) | h
  · exact .inl (.inl (e _ _ h))
  · exact .inl (.inr ⟨o, e _ _ h⟩)
  · exact .inr h
theorem atI_nat {α : Type} {xs : List α} {j : Nat} (h : j < xs.length) : atI xs (j : Int) = xs[j]? := by
  unfold atI
  rw [ixN_at h]
  rfl
theorem atI_of {α : Type} {xs : List α} {r : Int} (h0 : 0 ≤ r) (h1 : r < xs.length) : ∃ x, atI xs r = some x ∧ x ∈ xs := by
  obtain ⟨j, rfl⟩ := Int.eq_ofNat_of_zero_le h0
  have hj : j < xs.length := by omega
  exact ⟨xs[j], by rw [atI_nat hj]; simp [hj], List.getElem_mem hj⟩
def enumD (es : List Int) : List PyData := es.zipIdx.map fun p => .tuple [.int (p.2 : Nat), .int p.1]
theorem enumD_at {es : List Int} {i : Nat} {x : Int} (h : es[i]? = some x) : (enumD es)[i]? = some (.tuple [.int (i : Nat), .int x]) := by
  unfold enumD
  rw [List.getElem?_map, List.getElem?_zipIdx, h]
  simp
theorem enumD_len (es : List Int) : (enumD es).length = es.length := by simp [enumD]
section
variable {X : Cx} {K : PySem.W.Frag} {σ : St} {G H : Hp} {p pos tpos : Pos} {D : Ends} {a b : Expr} {d : PyData}
theorem Gives.enum {r : Addr} {xs : List V} {es : List Int} (h : G r = some (.lst xs)) (hd : DqAll G xs (es.map .int)) : Gives (Ite K r) G (enumD es) where
  go := fun i G3 H3 s s3 hi => by
    rw [enumD_len] at hi
    have e : xs = es.map V.int := DqAll.of_ints hd
    have : i < xs.length := by rw [e, List.length_map]; exact hi
    exact ⟨xs, xs[i], .of (s3 _ _ (s _ _ h)), by simp [this]⟩
  yld := fun i G3 H3 x H' s s3 hi hy => by
    obtain ⟨T, u, rfl, hT, rfl, hx⟩ := hy
    rw [enumD_len] at hi
    have e : xs = es.map V.int := DqAll.of_ints hd
    have ex := hx xs (.of (s3 _ _ (s _ _ h)))
    rw [e, List.getElem?_map, List.getElem?_eq_getElem hi] at ex
    cases ex
    exact ⟨_, upd G3 T (.tup [.int (i : Nat), .int es[i]]), enumD_at (List.getElem?_eq_getElem hi), Ext.new s3 hT, .tupR (.inl upd_same) (.cons (.int _) (.cons (.int _) .nil))⟩
  stop := fun i G3 H3 s s3 hi => ⟨xs, .of (s3 _ _ (s _ _ h)), by
    rw [enumD_len] at hi
    rw [hd.length, List.length_map]
    exact hi⟩
theorem ei_enum {es : List Int} {elts : List Expr} {kk : Nat} (hm : X.mg "enumerate" = none) (ha : ED X a σ G (.list (es.map .int))) (hg : Gl X "enumerate" := by rfl) (hs : starEach [a] X.env = [(false, eval a X.env)] := by rfl) :
    EI X (.Tuple elts kk tpos) (.Call (.Name "enumerate" p) [a] [] pos) σ G (enumD es) := fun H s Rr q =>
  wi (pi_enum hg hm pa hs) (eds_cons ha eds_nil hs H s _ fun vs G2 H2 y ps => by
    obtain ⟨v, rfl, h⟩ := ps.one
    cases h with
    | lst h1 h2 => exact ⟨_, _, rfl, .of (y.gh _ _ h1), q _ G2 H2 y (Gives.enum h1 h2)⟩)
/-- a slice of a list that is read only -/
theorem w_cut {Q : VK} {ra : Addr} {ns : List Int} {lo hi : Option Expr} {l u : Option Int} {p2 : Pos} (hq : SqL X.K H ra (ns.map V.int)) (ha : ∀ Q : VK, Q (.ref ra) H → WE X a σ H Q) (hl : EO X lo σ (fun _ => none) l) (hh : EO X hi σ (fun _ => none) u) (q : ∀ r H2, Same H H2 → H2 r = none → Q (.ref r) (upd H2 r (.lst (cutV (ns.map V.int) l u)))) :
    WE X (.Subscript a (.Slice lo hi none p2) pos) σ H Q :=
  we (pe_slice sl_list pe (po_t lo) (po_t hi)) (ha _ (hl.t (fun b o e => by cases e) fun G3 H3 y2 => (hh.up y2.gg).t y2.gh fun G4 H4 y3 => ⟨ra, _, rfl, sqL_up y3.hh (sqL_up y2.hh hq), fun r hr => q r H4 (y2.hh.trans y3.hh) hr⟩))
end
section
variable {P : Program} {w : World} {K : PySem.W.Frag} {mg : Str → Option Value} {base : Heap}
def SpBox : Sp := fun vs H Q _ => ∃ (G : Hp) (v1 : V) (ns : List Int) (k : Nat), vs = [v1, .int (k : Nat)] ∧ Same G H ∧ Dq G v1 (.list (ns.map .int)) ∧ k < ns.length ∧ k < 3 ∧ ∀ ua H2, Same H H2 → H2 ua = none → ∀ o, (∀ H3, H3 ua = some o → Urn 0 ua H3) → Q (.ref ua) (upd H2 ua o)
theorem ok_box {f : Addr} {fd : FuncData} (B : Bi mg) (F : Fun K "_law_box" "_law_box" s_law_box f fd) : FnOk P w K mg base CX0 1 f fd ["_law_script", "_law_k"] SpBox := by
  refine def_ok F c_law_box (fun vs H Q E h => by obtain ⟨G, v1, ns, k, rfl, _⟩ := h; rfl) fun cdv A outer s H E vs Q hr h => ?_
  obtain ⟨G, v1, ns, k, rfl, sG, h1, hk, hk3, q⟩ := h
  have hn : (ns.map PyData.int)[k]? = some (.int ns[k]) := by simp [hk]
  generalize hz : ns[k] = z at hn
  refine b_cons (s_set 2 c_law_box.nd (d := .int z) (ed_if (k := true) (ET.to (et_lt (ed_var 1 rfl (.int (k : Nat))) (ed_len rfl B.len (ed_var 0 rfl h1))) (by simp; exact hk)) (fun _ => ed_ix rfl (by rw [atI_nat (by simpa using hk)]; exact hn) (ed_var 0 rfl h1) (ed_var 1 rfl (.int _))) (fun h => by cases h)) sG fun v G1 H1 y1 hv => ?_)
  cases hv
  refine b_cons (s_set 3 c_law_box.nd (ed_mul (.inr (by cases decide ((10 : Int) ^ (18 : Int).toNat ≤ if z < 0 then -z else z) <;> decide)) (ed_abs B.abs (ed_var 2 rfl (.int z))) (ed_intB B.int (ed_ge (ed_abs B.abs (ed_var 2 rfl (.int z))) (ed_pow ⟨by decide, by decide, by decide⟩ ed_int ed_int)))) y1.gh fun v G2 H2 y2 hv => ?_)
  cases hv
  generalize hlead : ((if z < 0 then -z else z) * (if decide ((10 : Int) ^ (18 : Int).toNat ≤ if z < 0 then -z else z) = true then 1 else 0)) = lead
  have hlead0 : 0 ≤ lead := by
    rw [← hlead]
    refine Int.mul_nonneg ?_ ?_
    · split <;> omega
    · generalize decide ((10 : Int) ^ (18 : Int).toNat ≤ if z < 0 then -z else z) = kk
      cases kk <;> decide
  refine b_one (s_retV (we (pe_lst pa) (wa (pa_cons pe pa) (w_var 3 rfl (wa (pa_cons pe pa) (w_ed (ed_add (ed_add (ed_mod (by decide) (ed_intI B.int (ed_var 2 rfl (.int z))) ed_int) (ed_mul (.inl ⟨by decide, by decide⟩) ed_int (ed_var 1 rfl (.int _)))) ed_int) y2.gh fun v G3 H3 y3 hv => ?_))))))
  cases hv
  refine wa (pa_cons pe pa_nil) (we pe_int ⟨by show 3 ≤ sizeLine; decide, fun ua hua => ?_⟩)
  have m1 := Int.emod_nonneg z (by decide : (2305843009213693951 : Int) ≠ 0)
  have m2 := Int.emod_lt_of_pos z (by decide : (0 : Int) < 2305843009213693951)
  exact q ua H3 ((y1.hh.trans y2.hh).trans y3.hh) hua _ fun H4 h4 => ⟨_, _, _, h4, hlead0, by omega, by omega, by decide, by decide, by decide⟩
/-! ### of -/
def SpOf : Sp := fun vs H Q _ => ∃ (n : Nat) (G : Hp) (ua : Addr) (v : V) (d : PyData) (ds : List PyData), vs = [.ref ua, v] ∧ Same G H ∧ G ua = none ∧ Dq G v d ∧ seqOf d = some ds ∧ ds ≠ [] ∧ ds.length ≤ 1000 ∧ Urn n ua H ∧ n + 1 < 1000000000 ∧
  ∀ x u G2 H2, x ∈ ds → Dq G2 u x → Same G G2 → G2 ua = none → Same G2 H2 → Urn (n + 1) ua H2 → Bar ua H H2 → Q u H2
/-- a take: whatever comes -/
theorem w_take {X : Cx} {σ : St} {H : Hp} {a b : Expr} {p pos : Pos} {Q : VK} {k n : Nat} {ua : Addr} {low : Int} (T : CalX X CX0 "_law_take" ["_law_urn", "_law_low_so"] k SpTake) (hr : Room k X.A) (hu : Urn n ua H) (hn : n + 1 < 1000000000) (hl : 0 < low) (hl2 : low < 1073741824) (ha : ∀ Q : VK, Q (.ref ua) H → WE X a σ H Q)
    {G : Hp} (sG : Same G H) (hb : ED X b σ G (.int low)) (q : ∀ r H2, 0 ≤ r → r < low → Urn (n + 1) ua H2 → Bar ua H H2 → Q (.int r) H2) (hg : Gl X "_law_take" := by rfl) (he : starEach (a :: [b]) X.env = (false, eval a X.env) :: starEach [b] X.env := by rfl) (he2 : starEach [b] X.env = (false, eval b X.env) :: starEach [] X.env := by rfl) (hpl : (backTo pos (starEach [b] X.env)).any (·.1) = false := by rfl) :
    WE X (.Call (.Name "_law_take" p) [a, b] [] pos) σ H Q :=
  wcall (E := eN) T hr pasN (wa (pa_cons pe pa he) (ha _ (wa (pa_cons pe pa_nil he2) (w_ed hb sG fun v G2 H2 y hv => by
    cases hv
    exact ⟨n, ua, low, rfl, hu.up fun o e => y.hh _ _ e, hl, hl2, hn, fun r H3 h1 h2 h3 h4 => q r H3 h1 h2 h3 ((Bar.ext y).trans h4)⟩)))) hg (by decide) he hpl
theorem ok_of {f : Addr} {fd : FuncData} (B : Bi mg) (F : Fun K "_law_of" "_law_of" s_law_of f fd) (T : CalN P w K mg base "_law_take" ["_law_urn", "_law_low_so"] 1 SpTake) : FnOk P w K mg base CX0 2 f fd ["_law_urn", "_law_some_so"] SpOf := by
  refine def_ok F c_law_of (fun vs H Q E h => by obtain ⟨n, G, ua, v, d, ds, rfl, _⟩ := h; rfl) fun cdv A outer s H E vs Q hr h => ?_
  obtain ⟨n, G, ua, v, d, ds, rfl, sG, hG, hv, hd, hne, hl, hu, hn, q⟩ := h
  have hpos : 0 < ds.length := List.length_pos_iff.mpr hne
  refine b_one (s_retV (we (pe_ix ix_seq pe pe (fun _ _ => rfl)) (w_var 1 rfl (w_take T hr hu hn (low := (ds.length : Nat)) (by omega) (by omega) (fun Q h => w_var 0 rfl h) sG (ed_len hd B.len (ed_var 1 rfl hv)) fun r H2 h1 h2 hu2 bar => ?_))))
  · have s2 := bar.same sG hG
    obtain ⟨x, hx, hm⟩ := atI_of h1 h2
    obtain ⟨a, xs, rfl, e1, e2⟩ := hv.seq hd
    obtain ⟨u, hu', hp⟩ : ∃ u, atI xs r = some u ∧ Dq G u x := by
      unfold atI at hx ⊢
      rw [e1.length]
      cases e : ixN ds.length r with
      | none => rw [e] at hx; cases hx
      | some j =>
        rw [e] at hx
        exact e1.get hx
    have fin := q x u G H2 hm hp (Same.refl _) hG s2 hu2 bar
    rcases e2 with ⟨_, e2⟩ | ⟨_, e2⟩
    · exact .inl ⟨a, xs, r, u, rfl, rfl, .of (s2 _ _ e2), hu', fin⟩
    · exact .inr (.inl ⟨a, xs, r, u, rfl, rfl, .inl (e2.up s2), hu', fin⟩)
end
end Wk
set_option maxHeartbeats 4000000
/-! cells. -/
namespace Wk
open PySem PySem.Spec PyProof.Rows L2 Km PySem.Nt
section
variable {P : Program} {w : World} {K : PySem.W.Frag} {mg : Str → Option Value} {base : Heap}
theorem cutV_ints (ns : List Int) (l u : Option Int) : ∃ ms : List Int, cutV (ns.map V.int) l u = ms.map V.int ∧ ms = (ns.drop (HT.sIx ns.length 0 l)).take (HT.sIx ns.length ns.length u - HT.sIx ns.length 0 l) := by
  refine ⟨_, ?_, rfl⟩
  unfold cutV
  rw [List.length_map, List.map_take, List.map_drop]
def SpCells (K : PySem.W.Frag) : Sp := fun vs H Q _ => ∃ (ra : Addr) (ns : List Int), vs = [.ref ra, .int 3] ∧ SqL K H ra (ns.map V.int) ∧ ns.length ≤ 63 ∧ ∀ r H2 (ms : List Int), Same H H2 → H r = none → H2 r = some (.lst (ms.map V.int)) → 1 ≤ ms.length → ms.length ≤ 3 → Q (.ref r) H2
theorem ok_cells {f : Addr} {fd : FuncData} (B : Bi mg) (F : Fun K "_law_cells" "_law_cells" s_law_cells f fd) : FnOk P w K mg base CX0 1 f fd ["_law_script", "_law_top"] (SpCells K) := by
  refine def_ok F c_law_cells (fun vs H Q E h => by obtain ⟨ra, ns, rfl, _⟩ := h; rfl) fun cdv A outer s H E vs Q hr h => ?_
  obtain ⟨ra, ns, rfl, hq, hn, q⟩ := h
  obtain ⟨m1, e1, d1⟩ := cutV_ints ns none (some 3)
  obtain ⟨m2, e2, d2⟩ := cutV_ints ns (some 3) (some 63)
  have l1 : m1.length = min 3 ns.length := by
    rw [d1, HT.sIx_none, show (3 : Int) = ((3 : Nat) : Int) from rfl, HT.sIx_nat]
    simp
  have l2 : m2 ≠ [] → 3 < ns.length := fun h => by
    by_cases z : 3 < ns.length
    · exact z
    · refine absurd ?_ h
      rw [d2, show (3 : Int) = ((3 : Nat) : Int) from rfl, HT.sIx_nat, List.drop_of_length_le (by omega)]
      simp
  have l2z : m2.length ≤ 63 := by
    rw [d2]
    have := List.length_take_le (HT.sIx ns.length ns.length (some 63) - HT.sIx ns.length 0 (some 3)) (ns.drop (HT.sIx ns.length 0 (some 3)))
    have h2 := List.length_take_le' (HT.sIx ns.length ns.length (some 63) - HT.sIx ns.length 0 (some 3)) (ns.drop (HT.sIx ns.length 0 (some 3)))
    have h3 : (ns.drop (HT.sIx ns.length 0 (some 3))).length ≤ ns.length := by rw [List.length_drop]; omega
    omega
  refine b_cons (s_setV 2 c_law_cells.nd (we_mono (Q := fun v H1 => ∃ (fr : Addr) (ms : List Int), v = .ref fr ∧ Same H H1 ∧ H fr = none ∧ H1 fr = some (.lst (ms.map V.int)) ∧ 1 ≤ ms.length ∧ (3 < ns.length → ms.length = 3) ∧ ms.length ≤ 3) (we (pe_orT pe pe) ?_) ?_))
  · refine we (pe_callTy call_list_of rfl B.list (by decide +kernel) pa (by decide) (by decide) rfl rfl) (wa (pa_cons pe pa_nil) ?_)
    refine w_cut hq (fun Q h => w_var 0 rfl h) eo_none (eo_some (i := 3) (ed_var 1 rfl (.int 3))) fun r H2 s2 hr2 => ?_
    have hr0 : H r = none := s2.free hr2
    rw [e1]
    refine ⟨r, _, rfl, .inl (.of upd_same), fun l hl => ?_⟩
    have nlr : l ≠ r := fun z => by rw [z, upd_same] at hl; cases hl
    have hl2 : H2 l = none := by rw [upd_ne nlr] at hl; exact hl
    have s3 : Same H (upd (upd H2 r (.lst (m1.map V.int))) l (.lst (m1.map V.int))) := (s2.mut hr0).mut (s2.free hl2)
    cases m1 with
    | nil =>
      refine ⟨false, .inl ⟨_, .of upd_same, rfl⟩, iteF (we (pe_one pe) (we (pe_lst pa) (wa (pa_cons pe pa_nil) (we pe_int ⟨by show 1 ≤ sizeLine; decide, fun t ht => ?_⟩))))⟩
      refine ⟨t, [0], rfl, s3.mut (s3.free ht), s3.free ht, upd_same, by decide, fun h => ?_, by decide⟩
      simp at l1
      omega
    | cons z zs =>
      refine ⟨true, .inl ⟨_, .of upd_same, rfl⟩, iteT ?_⟩
      exact ⟨l, z :: zs, rfl, s3, s2.free hl2, upd_same, by simp, fun h => by omega, by omega⟩
  · rintro v H1 ⟨fr, ms, rfl, s1, n1, f1, g1, g2, g3⟩
    refine b_cons (s_for (G := H) m2.zipIdx (fun p => .tuple [.int (p.2 : Nat), .int p.1]) (fun p G σ σ2 => ∃ v w, Dq G v (.int (p.2 : Nat)) ∧ Dq G w (.int p.1) ∧ σ2 = (σ.set 3 (some v)).set 4 (some w))
      (fun i σ' G' H' => (∃ x y z, σ' = [some (.ref ra), some (.int 3), some (.ref fr), x, y, z]) ∧ Same G' H' ∧ G' fr = none ∧ Same H G' ∧ ∃ ms' : List Int, ms'.length = ms.length ∧ H' fr = some (.lst (ms'.map V.int)))
      PassesOwn.never rfl ?_ s1 (fun G2 H2 y => ?_) (fun i σ' G' H' h => h.2.1) (fun p hp G3 s3 σ' => bnd_pr 3 4 rfl rfl c_law_cells.nd rfl (.inl rfl) (.inr rfl) rfl (.inl rfl) (.inr rfl)) ?_ ?_)
    · refine fun H2 s2 R q2 => wi (pi_enum rfl B.enumerate pa rfl) (wa (pa_cons pe pa_nil) ?_)
      refine w_cut (sqL_up s2 hq) (fun Q h => w_var 0 rfl h) (eo_some (i := 3) (ed_var 1 rfl (.int 3))) (eo_some (i := 63) ed_int) fun r H3 s3 hr3 => ?_
      rw [e2]
      have gr : H r = none := s2.free (s3.free hr3)
      refine ⟨r, _, rfl, .of upd_same, ?_⟩
      refine q2 _ (upd H r (.lst (m2.map V.int))) _ ⟨Same.laid gr, fun b o e => (Same.laid hr3) b o (s3 b o e), (s2.trans s3).laid2, fun b k1 k2 => ?_⟩ (Gives.enum upd_same (DqAll.ints m2))
      rw [upd_ne (fun z => k1 (by rw [z]; exact s3.free hr3))]
      exact k2
    · exact ⟨⟨none, none, none, rfl⟩, y.gh, y.out _ (by rw [f1]; exact fun z => by cases z) n1, y.gg, ms, rfl, y.hh _ _ f1⟩
    · rintro i p σ' G' H' G3 H3 σ2 hi ⟨⟨x0, y0, z0, rfl⟩, sg, gf, sh, ms', hl', hf'⟩ sa y ⟨v, w, hv, hw, rfl⟩
      cases hv
      cases hw
      obtain ⟨own, kk⟩ := p
      have hne : m2 ≠ [] := fun z => by rw [z] at hi; simp at hi
      have hl3 : ms.length = 3 := g2 (l2 hne)
      have hkk : kk < 64 := by
        have hm := List.mem_of_getElem? hi
        have := List.snd_lt_of_mem_zipIdx hm
        omega
      have f3 := y.hh _ _ hf'
      have g3f : G3 fr = none := y.out _ (by rw [hf']; exact fun z => by cases z) gf
      refine b_cons (s_set 5 c_law_cells.nd (ed_mod (by decide) (ed_intI B.int (ed_var 3 rfl (.int (kk : Nat)))) (ed_var 1 rfl (.int 3))) y.gh fun v G4 H4 y4 hv => ?_)
      cases hv
      have f4 := y4.hh _ _ f3
      have at0 := Int.emod_nonneg (kk : Int) (by decide : (3 : Int) ≠ 0)
      have at1 := Int.emod_lt_of_pos (kk : Int) (by decide : (0 : Int) < 3)
      generalize hat : ((kk : Nat) : Int) % 3 = at' at at0 at1
      obtain ⟨j, rfl⟩ := Int.eq_ofNat_of_zero_le at0
      have hj : j < ms'.length := by omega
      have dqf : Dq (oneG fr (.lst (ms'.map V.int))) (.ref fr) (.list (ms'.map .int)) := .lst oneG_at (DqAll.ints ms')
      refine b_one (s_put (ua := fr) (k := (j : Int)) (j := j) (xs := ms'.map V.int) (w_ed (ed_add (ed_ix (x := .int ms'[j]) rfl (by rw [atI_nat (by simpa using hj)]; simp [hj]) (ed_var 2 rfl dqf) (ed_var 5 rfl (.int (j : Nat)))) (ed_mul (.inr ⟨by omega, by omega⟩) (ed_var 4 rfl (.int own)) (ed_add (ed_var 3 rfl (.int (kk : Nat))) ed_int))) (oneG_same f4) fun v G5 H5 y5 hv => w_var 2 rfl ⟨rfl, w_var 5 rfl ⟨rfl, y5.hh _ _ f4, by rw [List.length_map]; exact ixN_at hj, ?_⟩⟩))
      cases hv
      have s5 : Same G3 H5 := fun b o e => y5.hh b o (y4.hh b o (y.gh b o e))
      refine ⟨G3, ⟨⟨_, _, _, rfl⟩, s5.mut g3f, g3f, sh.trans y.gg, ms'.set j (ms'[j] + own * ((kk : Nat) + 2)), by rw [List.length_set]; exact hl', ?_⟩, Same.refl _⟩
      rw [upd_same, List.map_set]
    · rintro σ' G' H' ⟨⟨x0, y0, z0, rfl⟩, sg, gf, sh, ms', hl', hf'⟩ sa
      exact b_one (s_retV (w_var 2 rfl (q fr H' ms' (sh.trans sg) n1 hf' (by omega) (by omega))))
end
end Wk
set_option maxHeartbeats 4000000
/-! same, lists, mixed. -/
namespace Wk
open PySem PySem.Spec PyProof.Rows L2 Km PySem.Nt
def isL : PyData → Bool
  | .list _ => true
  | _ => false
def isT : PyData → Bool
  | .tuple _ => true
  | _ => false
def isBo : PyData → Bool
  | .bool _ => true
  | _ => false
theorem kb_list (d : PyData) : kitB (tyOf d) "list" = some (isL d) := by cases d <;> simp only [tyOf, isL] <;> decide +kernel
theorem kb_tuple (d : PyData) : kitB (tyOf d) "tuple" = some (isT d) := by cases d <;> simp only [tyOf, isT] <;> decide +kernel
theorem kb_bool (d : PyData) : kitB (tyOf d) "bool" = some (isBo d) := by cases d <;> simp only [tyOf, isBo] <;> decide +kernel
theorem kb_int (i : Int) : kitB (tyOf (.int i)) "int" = some true := by simp only [tyOf]; decide +kernel
theorem zip_self (ds : List PyData) : zipD ds ds = ds.map fun d => .tuple [d, d] := by
  unfold zipD
  induction ds with
  | nil => rfl
  | cons d ds ih => rw [List.zip_cons_cons, List.map_cons, List.map_cons, ih]
theorem isNo (G : Hp) (x : V) (h : Dq G x .none) : x = .non := by cases h; rfl
def listsN : Nat → PyData → PyData
  | 0, d => d
  | n + 1, d => match seqOf d with
    | some ds => .list (ds.map (listsN n))
    | none => d
section
variable {P : Program} {w : World} {K : PySem.W.Frag} {mg : Str → Option Value} {base : Heap}
def SpSame (n : Nat) : Sp := PureSp fun ds d => ∃ x, ds = [x, x] ∧ flatN n x = true ∧ d = .bool true
theorem ok_same {f : Addr} {fd : FuncData} (B : Bi mg) (F : Fun K "_law_same" "_law_same" s_law_same f fd) (hm : mg "_law_same" = some (.ref f)) (b : Binds K fd ["_law_got", "_law_goal"] []) : ∀ n : Nat, FnOk P w K mg base CX0 (n + 1) f fd ["_law_got", "_law_goal"] (SpSame n) := by
  have key : ∀ n : Nat, (∀ m, n = m + 1 → Cal P w K mg base CX0 "_law_same" ["_law_got", "_law_goal"] n (SpSame m)) → FnOk P w K mg base CX0 (n + 1) f fd ["_law_got", "_law_goal"] (SpSame n) := fun n ih => by
    refine pure_ok F c_law_same (fun ds d h => by obtain ⟨x, rfl, _⟩ := h; rfl) fun cdv A outer s H E G vs ds d Q hr sG hv hR q => ?_
    obtain ⟨x, rfl, hf, rfl⟩ := hR
    obtain ⟨v1, v2, rfl, h1, h2⟩ := hv.two
    refine b_cons (s_if (k := isSeq x) (et_val (ed_isi2 B.isinstance (ed_var 1 rfl h2) B.list boot_list B.tuple boot_tuple (kit_seq x))) sG (fun hk G1 H1 y1 => ?_) fun hk G1 H1 y1 => b_nil ?_)
    · cases e : seqOf x with
      | none =>
        rw [isSeq_none e] at hk
        cases hk
      | some ds =>
        obtain ⟨m, rfl, hl, hx⟩ := flat_in e hf
        have g1 := h1.up y1.gg
        have g2 := h2.up y1.gg
        refine b_cons (s_if (k := false) (ET.to (EW.t (ew_or (et_neB (ed_isi B.isinstance (ed_var 0 rfl g1) B.list boot_list (kb_list x)) (ed_isi B.isinstance (ed_var 1 rfl g2) B.list boot_list (kb_list x))) fun _ => ew_or1 (et_neB (ed_isi B.isinstance (ed_var 0 rfl g1) B.tuple boot_tuple (kb_tuple x)) (ed_isi B.isinstance (ed_var 1 rfl g2) B.tuple boot_tuple (kb_tuple x))))) (by simp)) y1.gh (fun h => by cases h) fun _ G2 H2 y2 => b_nil ?_)
        have f1 := g1.up y2.gg
        have f2 := g2.up y2.gg
        refine b_one (s_ret ?_ y2.gh (RD.ext (RD.ext q y1) y2))
        refine ed_and (k := true) (ED.to (ed_eqI (ed_len e B.len (ed_var 0 rfl f1)) (ed_len e B.len (ed_var 1 rfl f2))) (by simp)) (fun _ => ed_one ?_) (fun h => by cases h)
        refine ED.to (ed_all (bs := ds.map fun _ => true) rfl B.all ?_) (by rw [all_yes])
        have hx2 : (x = .list ds ∧ x = .list ds) ∨ (x = .tuple ds ∧ x = .tuple ds) := by
          cases x <;> first | (cases e; exact .inl ⟨rfl, rfl⟩) | (cases e; exact .inr ⟨rfl, rfl⟩) | cases e
        refine ED.to (ed_lc2 2 3 ds id id (fun d => .tuple [d, d]) (fun _ => .bool true) (fun _ _ => rfl) (by omega) rfl c_law_same.nd (blk_ok n_law_same (defScope s_law_same) _ _ (by decide +kernel)) (EI.to (ei_zip hx2 B.zip (ed_var 0 rfl f1) (ed_var 1 rfl f2)) (zip_self ds)) ?_) (by rw [List.map_map]; rfl)
        intro y hy G3 _ u u2 hu hu2 s0 H0 C cl fp
        exact ed_call (ds := [y, y]) (E := eN) (ih m rfl) hr pasN (eds_cons (ed_var 2 rfl hu) (eds_cons (ed_var 3 rfl hu2) eds_nil)) ⟨y, rfl, hx y hy, rfl⟩
    · have g1 := h1.up y1.gg
      have g2 := h2.up y1.gg
      have q1 := RD.ext q y1
      cases x with
      | list ds => cases hk
      | tuple ds => cases hk
      | dict kvs => cases h1
      | none =>
        refine b_cons (s_if (k := true) (ET.to (EW.t (ew_or (k' := true) (et_isN (ed_var 1 rfl g2) ed_non) fun h => by cases h)) rfl) y1.gh (fun _ G2 H2 y2 => ?_) fun h => by cases h)
        have f1 := g1.up y2.gg
        have f2 := g2.up y2.gg
        refine b_one (s_ret ?_ y2.gh (RD.ext q1 y2))
        refine ed_and (k := true) (ED.to (ed_cmp op_eq (od_eqS (v := .non) (w := .non) isNo isNo rfl) (ed_var 0 rfl f1) (ed_var 1 rfl f2) (nomark _)) (by simp)) (fun _ => ed_and (k := true) (ED.to (ed_eqB (ed_isi B.isinstance (ed_var 0 rfl f1) B.bool boot_bool (kb_bool _)) (ed_isi B.isinstance (ed_var 1 rfl f2) B.bool boot_bool (kb_bool _))) (by simp)) (fun _ => ed_one ?_) (fun h => by cases h)) (fun h => by cases h)
        exact ED.to (ed_eqB (ed_isN (ed_var 0 rfl f1) ed_non) (ed_isN (ed_var 1 rfl f2) ed_non)) (by simp)
      | bool b =>
        refine b_cons (s_if (k := true) (ET.to (EW.t (ew_or (et_isN (ed_var 1 rfl g2) ed_non) fun _ => ew_or1 (et_val (ed_isi2 B.isinstance (ed_var 1 rfl g2) B.bool boot_bool B.str boot_str (kit_bs (.bool b)))))) rfl) y1.gh (fun _ G2 H2 y2 => ?_) fun h => by cases h)
        have f1 := g1.up y2.gg
        have f2 := g2.up y2.gg
        refine b_one (s_ret ?_ y2.gh (RD.ext q1 y2))
        refine ed_and (k := true) (ED.to (ed_cmp op_eq (od_eqS (v := .bl b) (w := .bl b) isB isB rfl) (ed_var 0 rfl f1) (ed_var 1 rfl f2) (nomark _)) (by simp)) (fun _ => ed_and (k := true) (ED.to (ed_eqB (ed_isi B.isinstance (ed_var 0 rfl f1) B.bool boot_bool (kb_bool _)) (ed_isi B.isinstance (ed_var 1 rfl f2) B.bool boot_bool (kb_bool _))) (by simp)) (fun _ => ed_one ?_) (fun h => by cases h)) (fun h => by cases h)
        exact ED.to (ed_eqB (ed_isN (ed_var 0 rfl f1) ed_non) (ed_isN (ed_var 1 rfl f2) ed_non)) (by simp)
      | str z =>
        refine b_cons (s_if (k := true) (ET.to (EW.t (ew_or (et_isN (ed_var 1 rfl g2) ed_non) fun _ => ew_or1 (et_val (ed_isi2 B.isinstance (ed_var 1 rfl g2) B.bool boot_bool B.str boot_str (kit_bs (.str z)))))) rfl) y1.gh (fun _ G2 H2 y2 => ?_) fun h => by cases h)
        have f1 := g1.up y2.gg
        have f2 := g2.up y2.gg
        refine b_one (s_ret ?_ y2.gh (RD.ext q1 y2))
        refine ed_and (k := true) (ED.to (ed_cmp op_eq (od_eqS (v := .str z) (w := .str z) isS isS rfl) (ed_var 0 rfl f1) (ed_var 1 rfl f2) (nomark _)) (by simp)) (fun _ => ed_and (k := true) (ED.to (ed_eqB (ed_isi B.isinstance (ed_var 0 rfl f1) B.bool boot_bool (kb_bool _)) (ed_isi B.isinstance (ed_var 1 rfl f2) B.bool boot_bool (kb_bool _))) (by simp)) (fun _ => ed_one ?_) (fun h => by cases h)) (fun h => by cases h)
        exact ED.to (ed_eqB (ed_isN (ed_var 0 rfl f1) ed_non) (ed_isN (ed_var 1 rfl f2) ed_non)) (by simp)
      | int i =>
        refine b_cons (s_if (k := false) (ET.to (EW.t (ew_or (et_isN (ed_var 1 rfl g2) ed_non) fun _ => ew_or1 (et_val (ed_isi2 B.isinstance (ed_var 1 rfl g2) B.bool boot_bool B.str boot_str (kit_bs (.int i)))))) rfl) y1.gh (fun h => by cases h) fun _ G2 H2 y2 => b_nil ?_)
        have f1 := g1.up y2.gg
        have f2 := g2.up y2.gg
        refine b_one (s_ret ?_ y2.gh (RD.ext q1 y2))
        refine ed_and (k := true) (ed_isi B.isinstance (ed_var 0 rfl f1) B.int (by decide +kernel) (kb_int i)) (fun _ => ed_and (k := true) (ED.to (ed_not (ed_isi B.isinstance (ed_var 0 rfl f1) B.bool boot_bool (kb_bool _))) rfl) (fun _ => ed_one ?_) (fun h => by cases h)) (fun h => by cases h)
        exact ED.to (ed_eqI (ed_var 0 rfl f1) (ed_var 1 rfl f2)) (by simp)
  intro n
  induction n with
  | zero => exact key 0 fun m z => by cases z
  | succ n ih =>
    refine key (n + 1) fun m z => ?_
    cases z
    exact cal F hm b ih
/-! ### lists -/
def SpLists (n : Nat) : Sp := PureSp fun ds d => ∃ x, ds = [x] ∧ flatN n x = true ∧ d = listsN n x
theorem ok_lists {f : Addr} {fd : FuncData} (B : Bi mg) (F : Fun K "_law_lists" "_law_lists" s_law_lists f fd) (hm : mg "_law_lists" = some (.ref f)) (b : Binds K fd ["_law_thing_so"] []) : ∀ n : Nat, FnOk P w K mg base CX0 (n + 1) f fd ["_law_thing_so"] (SpLists n) := by
  have key : ∀ n : Nat, (∀ m, n = m + 1 → Cal P w K mg base CX0 "_law_lists" ["_law_thing_so"] n (SpLists m)) → FnOk P w K mg base CX0 (n + 1) f fd ["_law_thing_so"] (SpLists n) := fun n ih => by
    refine pure_ok F c_law_lists (fun ds d h => by obtain ⟨x, rfl, _⟩ := h; rfl) fun cdv A outer s H E G vs ds d Q hr sG hv hR q => ?_
    obtain ⟨x, rfl, hf, rfl⟩ := hR
    obtain ⟨v, rfl, hv1⟩ := hv.one
    refine b_one (s_ret ?_ sG q)
    refine ed_if (k := isSeq x) (et_val (ed_isi2 B.isinstance (ed_var 0 rfl hv1) B.list boot_list B.tuple boot_tuple (kit_seq x))) (fun hk => ?_) (fun hk => ?_)
    · cases e : seqOf x with
      | none =>
        rw [isSeq_none e] at hk
        cases hk
      | some ds =>
        obtain ⟨m, rfl, hl, hx⟩ := flat_in e hf
        refine ED.to (ed_lc1 1 ds id (listsN m) hl rfl c_law_lists.nd (blk_ok n_law_lists (defScope s_law_lists) _ _ (by decide +kernel)) (EI.to (ei_seq e (ed_var 0 rfl hv1)) (List.map_id _).symm) ?_) (by rw [listsN, e])
        intro y hy G3 _ u hu s0 H0 C cl fp
        exact ed_call (ds := [y]) (E := eN) (ih m rfl) hr pasN (eds_cons (ed_var 1 rfl hu) eds_nil) ⟨y, rfl, hx y hy, rfl⟩
    · cases e : seqOf x with
      | some ds =>
        rw [isSeq_some e] at hk
        cases hk
      | none =>
        have : listsN n x = x := by
          cases n with
          | zero => rfl
          | succ n => rw [listsN, e]
        rw [this]
        exact ed_var 0 rfl hv1
  intro n
  induction n with
  | zero => exact key 0 fun m z => by cases z
  | succ n ih =>
    refine key (n + 1) fun m z => ?_
    cases z
    exact cal F hm b ih
end
end Wk
set_option maxHeartbeats 4000000
/-! mixed. -/
namespace Wk
open PySem PySem.Spec PyProof.Rows L2 Km PySem.Nt
theorem erase_map {α β : Type} (f : α → β) : ∀ (xs : List α) (j : Nat), (xs.map f).eraseIdx j = (xs.eraseIdx j).map f
  | [], _ => rfl
  | _ :: _, 0 => rfl
  | x :: xs, j + 1 => by
    show f x :: (xs.map f).eraseIdx j = f x :: (xs.eraseIdx j).map f
    rw [erase_map f xs j]
theorem erase_perm {α : Type} : ∀ {xs : List α} {j : Nat} (h : j < xs.length), (xs[j] :: xs.eraseIdx j).Perm xs
  | [], _, h => absurd h (Nat.not_lt_zero _)
  | _ :: _, 0, _ => List.Perm.refl _
  | x :: xs, j + 1, h => (List.Perm.swap _ _ _).trans ((erase_perm (xs := xs) (j := j) (Nat.lt_of_succ_lt_succ h)).cons x)
section
variable {P : Program} {w : World} {K : PySem.W.Frag} {mg : Str → Option Value} {base : Heap}
abbrev TakeAt (P : Program) (w : World) (K : PySem.W.Frag) (mg : Str → Option Value) (base : Heap) (k : Nat) : Prop := CalN P w K mg base "_law_take" ["_law_urn", "_law_low_so"] k SpTake
def SpMixed : Sp := fun vs H Q _ => ∃ (n : Nat) (G : Hp) (ua : Addr) (v : V) (d : PyData) (xs : List Str), vs = [.ref ua, v] ∧ Same G H ∧ G ua = none ∧ Dq G v d ∧ seqOf d = some (xs.map .str) ∧ xs.length ≤ 1000 ∧ Urn n ua H ∧ n + xs.length < 1000000000 ∧
  ∀ (ys : List Str) r H2, ys.Perm xs → H r = none → H2 r = some (.lst (ys.map .str)) → Same G H2 → Urn (n + xs.length) ua H2 → Bar ua H H2 → Q (.ref r) H2
theorem ok_mixed {f : Addr} {fd : FuncData} (B : Bi mg) (F : Fun K "_law_mixed" "_law_mixed" s_law_mixed f fd) (T : TakeAt P w K mg base 1) : FnOk P w K mg base CX0 2 f fd ["_law_urn", "_law_pool"] SpMixed := by
  refine def_ok F c_law_mixed (fun vs H Q E h => by obtain ⟨n, G, ua, v, d, xs, rfl, _⟩ := h; rfl) fun cdv A outer s H E vs Q hr h => ?_
  obtain ⟨n, G, ua, v, d, xs, rfl, sG, gu, hv, hd, hz, hu, hn, q⟩ := h
  refine b_cons (s_par 2 3 rfl c_law_mixed.nd (by decide) (we (pe_callTy call_list_of rfl B.list (by decide +kernel) pa (by decide) (by decide) rfl rfl) (wa (pa_cons pe pa_nil) (w_var 1 rfl ?_))))
  obtain ⟨a, vs, rfl, e1, e2⟩ := hv.seq hd
  cases DqAll.of_strs e1
  refine ⟨a, _, rfl, sideL sG e2, fun ra hra => we (pe_lst pa) (wa pa_nil ⟨Nat.zero_le _, fun fa hfa => ?_⟩)⟩
  have nfr : fa ≠ ra := fun z => by rw [z, upd_same] at hfa; cases hfa
  have hfa0 : H fa = none := by rw [upd_ne nfr] at hfa; exact hfa
  generalize hH1 : upd (upd H ra (.lst (xs.map V.str))) fa (.lst []) = H1
  have r1 : H1 ra = some (.lst (xs.map V.str)) := by rw [← hH1, upd_ne (Ne.symm nfr), upd_same]
  have f1 : H1 fa = some (.lst []) := by rw [← hH1, upd_same]
  have hh1 : Same H H1 := fun b o e => by
    rw [← hH1, upd_ne (ne_of_none e hfa0), upd_ne (ne_of_none e hra)]
    exact e
  have nra : ra ≠ ua := fun z => hu.ne (by rw [← z]; exact hra)
  have nfa : fa ≠ ua := fun z => hu.ne (by rw [← z]; exact hfa0)
  have gra : G ra = none := sG.free hra
  have gfa : G fa = none := sG.free hfa0
  refine b_cons (s_for (G := G) (List.range xs.length) (fun k : Nat => PyData.int (k : Int)) (fun k G σ σ2 => ∃ v, Dq G v (.int (k : Int)) ∧ σ2 = σ.set 4 (some v))
    (fun i σ' G' H' => (∃ x, σ' = [some (.ref ua), some (.ref a), some (.ref ra), some (.ref fa), x]) ∧ Same G' H' ∧ G' ra = none ∧ G' fa = none ∧ G' ua = none ∧ Urn (n + i) ua H' ∧ Bar ua H H' ∧
      ∃ (rs fs : List Str), H' ra = some (.lst (rs.map V.str)) ∧ H' fa = some (.lst (fs.map V.str)) ∧ (rs ++ fs).Perm xs ∧ rs.length + i = xs.length)
    PassesOwn.never rfl (ei_range (n := xs.length) (by omega) B.range (ED.to (ed_len hd B.len (ed_var 1 rfl hv)) (by simp))) (sG.trans hh1) (fun G2 H2 y => ?_) (fun i σ' G' H' h => h.2.1) (fun k hk G3 s3 σ' => bnd_name 4 c_law_mixed.nd) ?_ ?_)
  · exact ⟨⟨none, rfl⟩, y.gh, y.out _ (by rw [r1]; exact fun z => by cases z) gra, y.out _ (by rw [f1]; exact fun z => by cases z) gfa, y.out _ (Same.some hh1 hu.ne) gu, hu.up fun o e => y.hh _ _ (hh1 _ _ e), fun b o _ e => y.hh _ _ (hh1 _ _ e), xs, [], y.hh _ _ r1, y.hh _ _ f1, by simp, by simp⟩
  · rintro i k σ' G' H' G3 H3 σ2 hi ⟨⟨x0, rfl⟩, sg, k1, k2, k3, hu', bar, rs, fs, hr', hf', pm, hl⟩ sa y ⟨v, hv', rfl⟩
    cases hv'
    have hi' : i < xs.length := by
      have := (List.getElem?_eq_some_iff.mp hi).1
      simpa using this
    have hr3 := y.hh _ _ hr'
    have hf3 := y.hh _ _ hf'
    have hu3 := hu'.up fun o e => y.hh _ _ e
    have g1 := y.out _ (by rw [hr']; exact fun z => by cases z) k1
    have g2 := y.out _ (by rw [hf']; exact fun z => by cases z) k2
    have g3 := y.out _ hu'.ne k3
    have bar3 := bar.trans (Bar.ext y)
    have hlf : fs.length ≤ 1000 := by
      have := pm.length_eq
      rw [List.length_append] at this
      omega
    refine b_one (s_dropV (we (pe_bm PySem.F.plainAttrs_list PySem.F.slot_list_append PySem.F.type_list_append mt_append pe pa) (w_var 3 rfl ⟨.inl ⟨rfl, _, .of hf3⟩, ?_⟩)))
    refine wa (pa_cons pe pa_nil) (we (pe_bm PySem.F.plainAttrs_list PySem.F.slot_list_pop PySem.F.type_list_pop mt_popAt pe pa) (w_var 2 rfl ⟨.inl ⟨rfl, _, .of hr3⟩, ?_⟩))
    have dr : Dq (oneG ra (.lst (rs.map V.str))) (.ref ra) (.list (rs.map .str)) := .lst oneG_at (DqAll.strs rs)
    refine wa (pa_cons pe pa_nil) (w_take (low := (rs.length : Nat)) T hr hu3 (by omega) (by omega) (by omega) (fun Q h => w_var 0 rfl h) (oneG_same hr3) (ED.to (ed_len rfl B.len (ed_var 2 rfl dr)) (by simp)) fun r H4 z1 z2 hu4 bar4 => ?_)
    obtain ⟨j, rfl⟩ := Int.eq_ofNat_of_zero_le z1
    have hj : j < rs.length := by omega
    have hr4 := bar4 _ _ nra hr3
    have hf4 := bar4 _ _ nfa hf3
    refine ⟨ra, _, (j : Int), j, .str rs[j], rfl, rfl, hr4, by omega, by omega, (ixN_seq (ixN_at (by simpa using hj))).1, by simp [hj], ?_⟩
    refine ⟨fa, _, _, rfl, rfl, by rw [upd_ne nfr]; exact hf4, by rw [List.length_map]; exact Nat.lt_of_le_of_lt hlf (by decide), ?_⟩
    refine ⟨G3, ⟨⟨_, rfl⟩, ((bar4.same y.gh g3).mut g1).mut g2, g1, g2, g3, ?_, ?_, rs.eraseIdx j, fs ++ [rs[j]], ?_, ?_, ?_, ?_⟩, Same.refl _⟩
    · exact hu4.up fun o e => by rw [upd_ne (Ne.symm nfa), upd_ne (Ne.symm nra)]; exact e
    · intro b o hb e
      have e4 := bar4 b o hb (bar3 b o hb e)
      rw [upd_ne (fun z => by rw [z, hfa0] at e; cases e), upd_ne (fun z => by rw [z, hra] at e; cases e)]
      exact e4
    · rw [upd_ne (Ne.symm nfr), upd_same, erase_map]
    · rw [upd_same, List.map_append]
      rfl
    · have p1 : (rs[j] :: rs.eraseIdx j).Perm rs := erase_perm hj
      refine List.Perm.trans ?_ pm
      refine List.Perm.trans ?_ (List.Perm.append_right fs p1)
      rw [← List.append_assoc]
      exact List.perm_append_singleton _ _
    · rw [List.length_eraseIdx, if_pos hj]
      omega
  · rintro σ' G' H' ⟨⟨x0, rfl⟩, sg, k1, k2, k3, hu', bar, rs, fs, hr', hf', pm, hl⟩ sa
    rw [List.length_range] at hu' hl
    have : rs = [] := List.length_eq_zero_iff.mp (by omega)
    subst this
    exact b_one (s_retV (w_var 3 rfl (q fs fa H' pm hfa0 hf' (sa.trans sg) hu' bar)))
end
end Wk
set_option maxHeartbeats 4000000
/-! Names that are drawn. -/
namespace Wk
open PySem PySem.Spec PyProof.Rows L2 Km PySem.Nt
section
variable {X : Cx} {e a b c : Expr} {es : List Expr} {σ : St} {G H : Hp} {d da db dc : PyData} {ds : List PyData} {pos p p2 p3 p4 apos : Pos} {tg iter elt : Expr} {scope : Scope}
/-- the block's turns, the walk known -/
theorem lc_tail {α : Type} {Q : VK} {I : It} (ms : Addr → Prop) (xs : List α) (enc : α → PyData) (P : α → Hp → St → Prop) (J : Nat → Hp → List PyData → Prop) (own : List (Str × Nat)) (hz : xs.length ≤ 100000) (gv : Gives I G (xs.map enc)) (s : Same G H)
    (m1 : ∀ b, ms b → H b ≠ none) (m2 : ∀ b, ms b → G b = none) (h0 : J 0 H [])
    (hst : ∀ i H' H3 acc, (∀ b, H b ≠ none → H3 b = H' b) → J i H' acc → J i H3 acc)
    (hb : ∀ x ∈ xs, ∀ G3, Same G G3 → InB X scope fun Y => Bnd Y tg (wipe σ (own.map (·.2))) G3 (enc x) (P x G3)) (hw : ∀ x ∈ xs, ∀ G3 σ2, P x G3 σ2 → wipe σ2 (own.map (·.2)) = wipe σ (own.map (·.2)))
    (he : ∀ i x, xs[i]? = some x → ∀ G3 H3 acc σ2, Same G G3 → Same G3 H3 → (∀ b, ms b → G3 b = none) → (∀ b, H b ≠ none → H3 b ≠ none) → J i H3 acc → P x G3 σ2 → InB X scope fun Y => ∀ Q : VK, (∀ v d H6, (∀ G, Dq G v d) → ExtM ms G3 H3 G3 H6 → J (i + 1) H6 (acc ++ [d]) → Q v H6) → WE Y elt σ2 H3 Q)
    (k : ∀ v G2 H2 acc, ExtM ms G H G2 H2 → J xs.length H2 acc → Dq G2 v (.list acc) → Q v H2) :
    tLc (fun _ H R => R I H) (bG X scope tg) (bT X scope []) (bE X scope elt) (own.map (·.2)) σ H Q := by
  intro D hD
  have y0 := Ext.refl s
  have g1D : G D = none := y0.gh.free hD
  have hHD : H D = none := y0.hh.free hD
  have msD : ¬ ms D := fun z => m1 D z hHD
  have m3 : ∀ b, ms b → G b = none := fun b z => y0.out b (m1 b z) (m2 b z)
  have flat : ∀ {acc : List V} {as : List PyData}, (∀ G, DqAll G acc as) → ∀ {v : V} {d : PyData}, (∀ G, Dq G v d) → ∀ G, DqAll G (acc ++ [v]) (as ++ [d]) := fun h _ _ hv G => DqAll.snoc (hv G) (h G)
  refine ⟨fun i m H' => m = xs.length - i ∧ i ≤ xs.length ∧ ∃ acc as, ExtM ms G H G H' ∧ H' D = some (.lst acc) ∧ (∀ G, DqAll G acc as) ∧ J i H' as ∧ acc.length ≤ i, ⟨_, rfl, Nat.zero_le _, [], [], ?_, upd_same, fun _ => .nil, hst _ _ _ _ (fun b h => ?_) (hst 0 H H [] (fun b h => ?_) h0), Nat.zero_le _⟩, ?_⟩
  · exact ⟨Same.refl _, fun b o n e => by rw [upd_ne (ne_of_none e hD)]; exact e, y0.gh.mut g1D, fun b h1 h2 => h2, fun b h => by
      by_cases z : b = D
      · subst z; rw [upd_same]; exact fun z => by cases z
      · rw [upd_ne z]; exact h⟩
  · rw [upd_ne (fun z => h (by rw [z]; exact hHD))]
  · cases q : H b with
    | none => exact absurd q h
    | some o => rfl
  rintro i m H' ⟨rfl, hi', acc, as, yi, hDi, hA, hJ, hlen⟩
  have hl : (xs.map enc).length = xs.length := List.length_map _
  by_cases hlt : i < xs.length
  · refine .inr ⟨gv.go i G H' (Same.refl _) yi.gh (by rw [hl]; exact hlt), fun H7 => ∃ acc as, ExtM ms G H G H7 ∧ H7 D = some (.lst acc) ∧ (∀ G, DqAll G acc as) ∧ J (i + 1) H7 as ∧ acc.length ≤ i + 1, ?_, fun v H3 hy => ?_⟩
    · rintro H7 ⟨acc', as', a, b, c, d, e⟩
      exact ⟨xs.length - (i + 1), by omega, rfl, hlt, acc', as', a, b, c, d, e⟩
    · obtain ⟨d, G4, hd, y4, pd⟩ := gv.yld i G H' v H3 (Same.refl _) yi.gh (by rw [hl]; exact hlt) hy
      obtain ⟨x, hx, rfl⟩ : ∃ x, xs[i]? = some x ∧ enc x = d := by
        rw [List.getElem?_map] at hd
        cases e : xs[i]? with
        | none => rw [e] at hd; cases hd
        | some x => rw [e] at hd; exact ⟨x, rfl, Option.some.inj hd⟩
      have hm : x ∈ xs := List.mem_of_getElem? hx
      have sG : Same G G4 := y0.gg.trans y4.gg
      have live' : ∀ b, H b ≠ none → H' b ≠ none := fun b h => yi.live b (Same.some y0.hh h)
      have nD : H' D ≠ none := by rw [hDi]; exact fun z => by cases z
      have h3D : H3 D = some (.lst acc) := y4.hh _ _ hDi
      have J3 : J i H3 as := hst i H' H3 as (fun b h => by
        cases q : H' b with
        | none => exact absurd q (live' b h)
        | some o => exact y4.hh b o q) hJ
      intro s0 H0 C cl fp
      refine hb x hm G4 sG s0 H0 C cl fp H3 v y4.gh pd _ fun σ2 hP => ⟨hw x hm G4 σ2 hP, ?_⟩
      intro s0 H0 C cl fp
      refine wts pts_nil ?_
      simp only [↓reduceIte]
      intro s0 H0 C cl fp
      refine he i x hx G4 H3 as σ2 sG y4.gh (fun b z => y4.out b (live' b (m1 b z)) (m3 b z)) (fun b h => Same.some y4.hh (live' b h)) J3 hP s0 H0 C cl fp _ fun w dd H6 hw' x6 J6 => ?_
      have h6D : H6 D = some (.lst acc) := x6.hh _ _ msD h3D
      have s16 : Same G H6 := fun b o e => x6.gh b o (y4.gg b o e)
      refine ⟨acc, h6D, Nat.lt_of_le_of_lt (Nat.le_trans hlen (Nat.le_trans (Nat.le_of_lt hlt) hz)) (by decide), acc ++ [w], as ++ [dd], ⟨Same.refl _, fun b o n e => ?_, s16.mut g1D, fun b h1 h2 => h2, fun b h => ?_⟩, upd_same, flat hA hw', hst _ H6 _ _ (fun b h => by rw [upd_ne (fun z => h (by rw [z]; exact hHD))]) J6, by rw [List.length_append]; simpa using hlen⟩
      · have z : b ≠ D := ne_of_none e hD
        rw [upd_ne z]
        exact x6.hh b o n (y4.hh b o (yi.hh b o n e))
      · by_cases z : b = D
        · subst z; rw [upd_same]; exact fun z => by cases z
        · rw [upd_ne z]
          exact x6.live b (Same.some y4.hh (yi.live b h))
  · have e : i = xs.length := by omega
    subst e
    refine .inl ⟨gv.stop _ G H' (Same.refl _) yi.gh (by rw [hl]; exact Nat.le_refl _), k _ (upd G D (.lst acc)) H' as ((y0.m).trans ⟨Same.laid g1D, yi.hh, fun b o hb => ?_, fun b h1 h2 => ?_, yi.live⟩) hJ (.lst upd_same (hA _))⟩
    · by_cases z : b = D
      · subst z
        rw [upd_same] at hb
        cases hb
        exact hDi
      · rw [upd_ne z] at hb
        exact yi.gh b o hb
    · have z : b ≠ D := fun z => h1 (by rw [z]; exact hD)
      rw [upd_ne z]
      exact h2
/-- one sign -/
def chr (c : Nat) : Str := ⟨#[c]⟩
def strC (cs : List Nat) : Str := ⟨cs.toArray⟩
theorem joinL_nil : ∀ ps : List (List Nat), TL.joinL [] ps = ps.flatten
  | [] => rfl
  | [p] => by simp [TL.joinL]
  | p :: q :: r => by
    show p ++ ([] ++ TL.joinL [] (q :: r)) = _
    rw [joinL_nil (q :: r)]
    simp
theorem flat_chr : ∀ cs : List Nat, ((cs.map chr).map TL.tl).flatten = cs
  | [] => rfl
  | c :: cs => by
    simp only [List.map_cons, List.flatten_cons]
    rw [flat_chr cs]
    rfl
theorem join_chr (cs : List Nat) : Txt.join (Str.ofString "") (cs.map chr) = strC cs := by
  refine PySem.W.str_of_cps ?_
  rw [TL.join_eq]
  refine (TL.tl_join (Str.ofString "") (cs.map chr)).trans ?_
  rw [show TL.tl (Str.ofString "") = [] by decide +kernel, joinL_nil, flat_chr]
  rfl
theorem sum_chr (cs : List Nat) : ((cs.map chr).map (·.length)).sum = cs.length := by
  induction cs with
  | nil => rfl
  | cons c cs ih =>
    simp only [List.map_cons, List.sum_cons, List.length_cons, ih]
    show 1 + cs.length = _
    omega
/-- ''.join(e), e a list of signs -/
theorem ed_join {j : Nat} {cs : List Nat} (hz : cs.length ≤ 100000) (ha : ED X e σ G (.list (cs.map fun c => .str (chr c)))) (hs : starEach [e] X.env = [(false, eval e X.env)] := by rfl) (hbase : attributeBase (.Constant (.str "") j p) "join" X.env (eval (.Constant (.str "") j p) X.env) = eval (.Constant (.str "") j p) X.env := by rfl) (hline : (apos.endLine == pos.line) = true := by rfl) :
    ED X (.Call (.Attribute (.Constant (.str "") j p) "join" apos) [e] [] pos) σ G (.str (strC cs)) := fun H s Q q =>
  we (pe_join pe pe hs hbase hline) (we pe_str ⟨⟨_, rfl⟩, ha H s _ fun v G2 H2 y h => by
    cases h with
    | lst h1 h2 =>
      have e2 : (cs.map fun c => PyData.str (chr c)) = (cs.map chr).map .str := by rw [List.map_map]; rfl
      rw [e2] at h2
      cases DqAll.of_strs h2
      refine ⟨_, _, cs.map chr, rfl, rfl, .inl (.of (y.gh _ _ h1)), ?_, ?_⟩
      · rw [sum_chr, List.length_map]
        have : (Str.ofString "").length = 0 := by decide +kernel
        rw [this]
        omega
      · rw [join_chr]
        exact q _ G2 H2 y (.str _)⟩)
end
end Wk
set_option maxHeartbeats 4000000
/-! tags. -/
namespace Wk
open PySem PySem.Spec PyProof.Rows L2 Km PySem.Nt
theorem nodup_on {α β : Type} (f : α → β) : ∀ {l : List α}, (∀ a ∈ l, ∀ b ∈ l, f a = f b → a = b) → l.Nodup → (l.map f).Nodup
  | [], _, _ => List.nodup_nil
  | a :: l, h, nd => by
    rw [List.nodup_cons] at nd
    rw [List.map_cons, List.nodup_cons]
    refine ⟨fun m => ?_, nodup_on f (fun x hx y hy => h x (List.mem_cons_of_mem _ hx) y (List.mem_cons_of_mem _ hy)) nd.2⟩
    obtain ⟨b, hb, e⟩ := List.mem_map.mp m
    have := h b (List.mem_cons_of_mem _ hb) a List.mem_cons_self e
    rw [this] at hb
    exact nd.1 hb
theorem asc_sort {xs : List Str} (nd : xs.Nodup) : Asc (sSort xs) := by
  have h1 : (sSort xs).Pairwise (fun a b => leS a b = true) := List.pairwise_mergeSort (fun a b c h1 h2 => by
    unfold leS at *
    simp only [decide_eq_true_eq] at *
    exact List.le_trans h1 h2) (fun a b => by
    unfold leS
    simp only [Bool.or_eq_true, decide_eq_true_eq]
    exact List.le_total _ _) xs
  have h2 : (sSort xs).Nodup := (sSort_perm xs).nodup_iff.mpr nd
  unfold Asc
  refine (h1.and h2).imp fun {a b} h => ?_
  have hl : a.cps.toList ≤ b.cps.toList := by simpa [leS] using h.1
  have hne : a.cps.toList ≠ b.cps.toList := fun e => h.2 (PySem.W.str_of_cps e)
  rcases List.le_iff_lt_or_eq.mp hl with z | z
  · exact z
  · exact absurd z hne
def codeAt (first by_ : Int) (k : Nat) : Nat := 97 + ((first + by_ * k) % 26).toNat
theorem letter_at : ∀ r : Nat, r < 26 → letters[r]? = some (97 + r) ∧ 97 + r ∈ letters := by decide +kernel
theorem code_in (first by_ : Int) (k : Nat) : codeAt first by_ k ∈ letters := by
  have h1 := Int.emod_nonneg (first + by_ * k) (by decide : (26 : Int) ≠ 0)
  have h2 := Int.emod_lt_of_pos (first + by_ * k) (by decide : (0 : Int) < 26)
  exact (letter_at _ (by omega)).2
theorem letters_len : letters.length = 26 := by decide +kernel
theorem code_at {first by_ : Int} {k : Nat} : atI letters ((first + by_ * k) % 26) = some (codeAt first by_ k) := by
  have h1 := Int.emod_nonneg (first + by_ * k) (by decide : (26 : Int) ≠ 0)
  have h2 := Int.emod_lt_of_pos (first + by_ * k) (by decide : (0 : Int) < 26)
  unfold codeAt
  generalize (first + by_ * k) % 26 = r at h1 h2
  obtain ⟨j, rfl⟩ := Int.eq_ofNat_of_zero_le h1
  have hj : j < 26 := by omega
  rw [atI_nat (by rw [letters_len]; exact hj), (letter_at j hj).1]
  simp
def goodBy : List Int := [1, 3, 7, 11, 25]
theorem code_inj {first by_ : Int} (h0 : 0 ≤ first) (hb : by_ ∈ goodBy) {k j : Nat} (hk : k < 8) (hj : j < 8) (e : codeAt first by_ k = codeAt first by_ j) : k = j := by
  unfold codeAt at e
  have h1 := Int.emod_nonneg (first + by_ * k) (by decide : (26 : Int) ≠ 0)
  have h2 := Int.emod_nonneg (first + by_ * j) (by decide : (26 : Int) ≠ 0)
  simp only [goodBy, List.mem_cons, List.not_mem_nil, or_false] at hb
  rcases hb with rfl | rfl | rfl | rfl | rfl <;> omega
theorem nm_of {l : List Nat} (h1 : 1 ≤ l.length) (h2 : l.length ≤ 8) (h3 : ∀ c ∈ l, c ∈ letters) : Nm (strC l) := ⟨h1, h2, h3⟩
/-- the row of signs -/
def codes (first by_ : Int) : List Nat := (List.range 8).map (codeAt first by_)
theorem codes_len (first by_ : Int) : (codes first by_).length = 8 := by simp [codes]
theorem codes_in (first by_ : Int) : ∀ c ∈ codes first by_, c ∈ letters := fun c hc => by
  obtain ⟨k, _, rfl⟩ := List.mem_map.mp hc
  exact code_in _ _ _
structure Tags (many : Nat) (xs : List Str) : Prop where
  len : xs.length = many
  asc : Asc xs
  nm : ∀ x ∈ xs, Nm x
theorem tags_sort {many : Nat} {xs : List Str} (h1 : xs.length = many) (nd : xs.Nodup) (h2 : ∀ x ∈ xs, Nm x) : Tags many (sSort xs) :=
  ⟨by rw [(sSort_perm xs).length_eq, h1], asc_sort nd, fun x hx => h2 x ((sSort_perm xs).mem_iff.mp hx)⟩
def heads (first by_ : Int) (many : Nat) : List Str := (List.range many).map fun k => strC ((codes first by_).take (k + 1))
theorem heads_ok (first by_ : Int) {many : Nat} (hm : many ≤ 4) : Tags many (sSort (heads first by_ many)) := by
  have len : ∀ k ∈ List.range many, (strC ((codes first by_).take (k + 1))).length = k + 1 := fun k hk => by
    have := List.mem_range.mp hk
    show ((codes first by_).take (k + 1)).length = k + 1
    rw [List.length_take, codes_len]
    omega
  refine tags_sort (by simp [heads]) (nodup_on _ (fun a ha b hb e => ?_) List.nodup_range) fun x hx => ?_
  · have := len a ha
    rw [e, len b hb] at this
    omega
  · obtain ⟨k, hk, rfl⟩ := List.mem_map.mp hx
    have := List.mem_range.mp hk
    have hl := len k hk
    exact nm_of (by rw [show ((codes first by_).take (k + 1)).length = k + 1 from hl]; omega) (by rw [show ((codes first by_).take (k + 1)).length = k + 1 from hl]; omega) fun c hc => codes_in _ _ c (List.mem_of_mem_take hc)
def mids (stem : List Nat) (at_ : Nat) (first by_ : Int) (many : Nat) : List Str := (List.range many).map fun k => strC (stem.take at_ ++ codeAt first by_ k :: stem.drop at_)
theorem mids_ok {stem : List Nat} {at_ : Nat} {first by_ : Int} {many : Nat} (hm : many ≤ 4) (h0 : 0 ≤ first) (hb : by_ ∈ goodBy) (hs : stem.length ≤ 7) (hat : at_ ≤ stem.length) (hl : ∀ c ∈ stem, c ∈ letters) : Tags many (sSort (mids stem at_ first by_ many)) := by
  refine tags_sort (by simp [mids]) (nodup_on _ (fun a ha b hb' e => ?_) List.nodup_range) fun x hx => ?_
  · have ha := List.mem_range.mp ha
    have hb' := List.mem_range.mp hb'
    have e2 : stem.take at_ ++ codeAt first by_ a :: stem.drop at_ = stem.take at_ ++ codeAt first by_ b :: stem.drop at_ := by
      have := congrArg (fun s : Str => s.cps.toList) e
      simpa [strC] using this
    have e3 := List.append_cancel_left e2
    injection e3 with e4 _
    exact code_inj h0 hb (by omega) (by omega) e4
  · obtain ⟨k, hk, rfl⟩ := List.mem_map.mp hx
    refine nm_of ?_ ?_ fun c hc => ?_
    · simp only [List.length_append, List.length_cons, List.length_take, List.length_drop]
      omega
    · simp only [List.length_append, List.length_cons, List.length_take, List.length_drop]
      omega
    · rcases List.mem_append.mp hc with hc | hc
      · exact hl c (List.mem_of_mem_take hc)
      · rcases List.mem_cons.mp hc with rfl | hc
        · exact code_in _ _ _
        · exact hl c (List.mem_of_mem_drop hc)
end Wk
set_option maxHeartbeats 4000000
namespace Wk
open PySem PySem.Spec PyProof.Rows L2 Km PySem.Nt
/-- nothing is known -/
def noG : Hp := fun _ => none
theorem noG_same (H : Hp) : Same noG H := fun b o e => by cases e
abbrev signsS : Str := "abcdefghijklmnopqrstuvwxyz"
theorem signs_len : signsS.length = 26 := by decide +kernel
theorem ite_t {c : Bool} {A B : Prop} (hc : c = true) (h : A) : if c = true then A else B := by
  rw [if_pos hc]
  exact h
theorem ite_f {c : Bool} {A B : Prop} (hc : c = false) (h : B) : if c = true then A else B := by
  rw [hc]
  exact h
section
variable {X : Cx} {σ : St} {G H : Hp} {a b : Expr} {p pos : Pos} {Q : VK} {k n : Nat} {ua : Addr} {d : PyData} {ds : List PyData}
theorem w_of (O : CalX X CX0 "_law_of" ["_law_urn", "_law_some_so"] k SpOf) (hr : Room k X.A) (hu : Urn n ua H) (hn : n + 1 < 1000000000) (ha : ∀ Q : VK, Q (.ref ua) H → WE X a σ H Q) (sG : Same G H) (gu : G ua = none) (hb : ED X b σ G d) (hd : seqOf d = some ds) (hne : ds ≠ []) (hl : ds.length ≤ 1000)
    (q : ∀ x u G2 H2, x ∈ ds → Dq G2 u x → Same G G2 → G2 ua = none → Same G2 H2 → Urn (n + 1) ua H2 → Bar ua H H2 → Q u H2) (hg : Gl X "_law_of" := by rfl) (he : starEach (a :: [b]) X.env = (false, eval a X.env) :: starEach [b] X.env := by rfl) (he2 : starEach [b] X.env = (false, eval b X.env) :: starEach [] X.env := by rfl) (hpl : (backTo pos (starEach [b] X.env)).any (·.1) = false := by rfl) :
    WE X (.Call (.Name "_law_of" p) [a, b] [] pos) σ H Q :=
  wcall (E := eN) O hr pasN (wa (pa_cons pe pa he) (ha _ (wa (pa_cons pe pa_nil he2) (w_ed hb sG fun v G2 H2 y hv =>
    ⟨n, G2, ua, v, d, ds, rfl, y.gh, y.out _ hu.ne gu, hv, hd, hne, hl, hu.up fun o e => y.hh _ _ e, hn, fun x u G3 H3 m h s g s3 u3 br => q x u G3 H3 m h (y.gg.trans s) g s3 u3 ((Bar.ext y).trans br)⟩)))) hg (by decide) he hpl
/-- [elt for tg in range(a)], a of whatever kind -/
theorem w_lcR {elt tg : Expr} {scope : Scope} {p0 pr : Pos} (own : List (Str × Nat)) (hc : X.calm = true) (hN : X.N.Nodup) (ok : BlkOk X.N X.env.scope scope own) (hm : X.mg "range" = none) (h : WE X a σ H fun v H1 => ∃ m : Nat, v = .int (m : Nat) ∧ m ≤ 100000 ∧ tLc (fun _ H R => R (Itr 0 m) H) (bG X scope tg) (bT X scope []) (bE X scope elt) (own.map (·.2)) σ H1 Q)
    (hg : Gl X "range" := by rfl) (hs : starEach [a] X.env = [(false, eval a X.env)] := by rfl) (hsi : ∀ x, foldedSetIterable (.Call (.Name "range" p0) [a] [] pr) X.env x = pure x := by intro _; rfl) : WE X (.ListComp elt [⟨tg, .Call (.Name "range" p0) [a] [] pr, [], 0⟩] scope pos) σ H Q :=
  we (pe_lc (own := own) hc hN pi ok bGp bTp bEp hsi) (wi (pi_range1 hg hm pa hs) (wa (pa_cons pe pa_nil hs) (we_mono h fun v H1 ⟨m, e, hm, t⟩ => by
    subst e
    refine ⟨(m : Nat), rfl, by omega, by omega, ?_⟩
    rw [Int.toNat_natCast]
    exact t)))
end
section
variable {P : Program} {w : World} {K : PySem.W.Frag} {mg : Str → Option Value} {base : Heap}
def SpTags : Sp := fun vs H Q _ => ∃ (n : Nat) (ua : Addr) (many : Nat), vs = [.ref ua, .int (many : Nat)] ∧ 1 ≤ many ∧ many ≤ 4 ∧ Urn n ua H ∧ n + 20 < 1000000000 ∧
  ∀ (xs : List Str) v G2 H2, Tags many xs → Dq G2 v (.list (xs.map .str)) → G2 ua = none → Same G2 H2 → Urn (n + 20) ua H2 → Bar ua H H2 → Q v H2
theorem ok_tags {f : Addr} {fd : FuncData} (B : Bi mg) (F : Fun K "_law_tags" "_law_tags" s_law_tags f fd) (T : TakeAt P w K mg base 2) (O : CalN P w K mg base "_law_of" ["_law_urn", "_law_some_so"] 2 SpOf) : FnOk P w K mg base CX0 3 f fd ["_law_urn", "_law_many_so"] SpTags := by
  refine def_ok F c_law_tags (fun vs H Q E h => by obtain ⟨n, ua, many, rfl, _⟩ := h; rfl) fun cdv A outer s H E vs Q hr h => ?_
  obtain ⟨n, ua, many, rfl, hm1, hm4, hu, hn, q⟩ := h
  refine b_cons (s_set 2 c_law_tags.nd (ed_str (z := signsS)) (noG_same H) fun v G1 H1 y1 hv => ?_)
  cases hv
  have hu1 := hu.up fun o e => y1.hh _ _ e
  have bar1 : Bar ua H H1 := Bar.ext y1
  refine b_cons (s_pair 3 4 rfl c_law_tags.nd (w_take (low := 26) T hr hu1 (by omega) (by decide) (by decide) (fun Q h => w_var 0 rfl h) (noG_same _) ed_int fun first H2 f0 f1 hu2 bar2 => ?_))
  refine w_of O hr hu2 (by omega) (fun Q h => w_var 0 rfl h) (noG_same _) rfl (ed_lst (eds_cons (ed_int (i := 1)) (eds_cons (ed_int (i := 3)) (eds_cons (ed_int (i := 7)) (eds_cons (ed_int (i := 11)) (eds_cons (ed_int (i := 25)) eds_nil)))))) rfl (by simp) (by simp) fun x u G3 H3 hx hux s3 g3 s33 hu3 bar3 r hr3 => ?_
  obtain ⟨by_, hby, rfl⟩ : ∃ by_ : Int, by_ ∈ goodBy ∧ x = .int by_ := by
    simp only [List.mem_cons, List.not_mem_nil, or_false] at hx
    rcases hx with rfl | rfl | rfl | rfl | rfl
    · exact ⟨1, by decide, rfl⟩
    · exact ⟨3, by decide, rfl⟩
    · exact ⟨7, by decide, rfl⟩
    · exact ⟨11, by decide, rfl⟩
    · exact ⟨25, by decide, rfl⟩
  cases hux
  have nr : r ≠ ua := fun z => hu3.ne (by rw [← z]; exact hr3)
  generalize hH4 : upd H3 r (.tup [.int first, .int by_]) = H4
  have hu4 : Urn (n + 1 + 1) ua H4 := hu3.up fun o e => by rw [← hH4, upd_ne (Ne.symm nr)]; exact e
  have bar4 : Bar ua H H4 := ((bar1.trans bar2).trans bar3).trans fun b o h e => by rw [← hH4, upd_ne (ne_of_none e hr3)]; exact e
  have e8 : (if ((many : Nat) : Int) > 8 then ((many : Nat) : Int) else 8) = ((8 : Nat) : Int) := by rw [if_neg (by omega)]; rfl
  refine b_cons (s_set 5 c_law_tags.nd (ED.to (ed_lc1 8 (List.range 8) (fun k : Nat => PyData.int (k : Int)) (fun k => .str (chr (codeAt first by_ k))) (by decide) rfl c_law_tags.nd (blk_ok n_law_tags (defScope s_law_tags) _ _ (by decide +kernel)) (ei_range (n := 8) (by decide) B.range (ED.to (ed_max2 rfl B.max ed_int (ed_var 1 rfl (.int (many : Nat)))) (by rw [e8])))
    fun k hk G3 _ u hu s0 H0 C cl fp => ed_ixS (z := signsS) (by rw [signs_len]; decide) code_at (ed_var 2 rfl (.str _)) (ed_mod (by decide) (ed_intI B.int (ed_add (ed_var 3 rfl (.int first)) (ed_mul (.inr (by have := List.mem_range.mp hk; omega)) (ed_var 4 rfl (.int by_)) (ed_var 8 rfl hu)))) ed_int)) (show _ = PyData.list ((codes first by_).map fun c => .str (chr c)) by unfold codes; rw [List.map_map]; rfl)) (noG_same H4) fun v5 G5 H5 y5 hv5 => ?_)
  have hu5 := hu4.up fun o e => y5.hh _ _ e
  have bar5 := bar4.trans (Bar.ext y5)
  have g5 : G5 ua = none := y5.out _ hu4.ne rfl
  -- the way by heads
  refine b_cons (s_ifV (wt pw.pt (ww (pw_and pt pw) ?_)))
  refine (et_lt (ed_var 1 rfl (.int (many : Nat))) (ed_int (i := 9))) H5 y5.gh _ fun G6 H6 y6 => ?_
  rw [decide_eq_true (show ((many : Nat) : Int) < 9 by omega)]
  refine iteT (ww (pw_and1 pt) (wt (pt_cmpR op_eq pe pe (nomark _)) ?_))
  have hu6 := hu5.up fun o e => y6.hh _ _ e
  have bar6 := bar5.trans (Bar.ext y6)
  have g6 : G6 ua = none := y6.out _ hu5.ne g5
  have hv6 := hv5.up y6.gg
  refine w_take (low := 4) T hr hu6 (by omega) (by decide) (by decide) (fun Q h => w_var 0 rfl h) (noG_same _) ed_int fun z H7 z0 z1 hu7 bar7 => we pe_int ⟨rfl, _, rfl, ?_⟩
  have s7 : Same G6 H7 := bar7.same y6.gh g6
  have bar07 := bar6.trans bar7
  by_cases hz : z = 0
  · subst hz
    refine ite_t (by simp) ?_
    refine b_one (s_ret (d := .list ((sSort (heads first by_ many)).map .str)) ?_ s7 fun v G8 H8 y8 hv8 => q _ v G8 H8 (heads_ok first by_ hm4) hv8 (y8.out _ hu7.ne g6) y8.gh ((hu7.up fun o e => y8.hh _ _ e).more (by omega) (by omega)) (bar07.trans (Bar.ext y8)))
    refine ed_sortS (d := .list ((heads first by_ many).map .str)) hr.units rfl (by simp [heads]; omega) B.sorted ?_
    refine ED.to (ed_lc1 8 (List.range many) (fun k : Nat => PyData.int (k : Int)) (fun k => .str (strC ((codes first by_).take (k + 1)))) (by simp; omega) rfl c_law_tags.nd (blk_ok n_law_tags (defScope s_law_tags) _ _ (by decide +kernel)) (ei_range (n := many) (by omega) B.range (ed_var 1 rfl (.int (many : Nat)))) ?_) (by unfold heads; rw [List.map_map]; rfl)
    intro k hk G9 s9 u hu s0 H0 C cl fp
    cases hu
    refine ed_join (by rw [List.length_take, codes_len]; omega) ?_
    refine ED.to (ed_slL (ed_var 5 rfl (hv6.up s9)) eo_none (eo_some (ed_add (ed_var 8 rfl (.int (k : Nat))) (ed_int (i := 1))))) ?_
    rw [show ((k : Nat) : Int) + 1 = ((k + 1 : Nat) : Int) by omega, cut_to, List.map_take]
  · refine ite_f (by simpa using hz) ?_
    refine b_nil ?_
    -- the stem
    refine b_cons (s_setV 6 c_law_tags.nd (we (pe_join pe pe rfl rfl rfl) (we pe_str ⟨⟨_, rfl⟩, ?_⟩)))
    refine w_lcR [("_law_turn", 9)] rfl c_law_tags.nd (blk_ok n_law_tags (defScope s_law_tags) _ _ (by decide +kernel)) B.range ?_
    refine w_of O hr hu7 (by omega) (fun Q h => w_var 0 rfl h) s7 g6 (ed_lst (eds_cons (ed_int (i := 0)) (eds_cons (ed_int (i := 0)) (eds_cons (ed_int (i := 1)) (eds_cons (ed_int (i := 5)) (eds_cons (ed_int (i := 7)) eds_nil)))))) rfl (by simp) (by simp) fun x u G8 H8 hx hux s8 g8 s88 hu8 bar8 => ?_
    obtain ⟨m, hm, rfl⟩ : ∃ m : Nat, m ≤ 7 ∧ x = .int (m : Nat) := by
      simp only [List.mem_cons, List.not_mem_nil, or_false] at hx
      rcases hx with rfl | rfl | rfl | rfl | rfl
      · exact ⟨0, by decide, rfl⟩
      · exact ⟨0, by decide, rfl⟩
      · exact ⟨1, by decide, rfl⟩
      · exact ⟨5, by decide, rfl⟩
      · exact ⟨7, by decide, rfl⟩
    cases hux
    refine ⟨m, rfl, by omega, ?_⟩
    refine lc_tail (own := [("_law_turn", 9)]) (fun b => b = ua) (List.range m) (fun k : Nat => PyData.int (k : Int)) (fun k G σ2 => ∃ v, Dq G v (.int (k : Int)) ∧ σ2 = (([some (.ref ua), some (.int (many : Nat)), some (.str signsS), some (.int first), some (.int by_), some v5, none, none, none, none] : L2.St).set 9 none).set 9 (some v))
      (fun i H' acc => ∃ cs : List Nat, acc = cs.map (fun c => PyData.str (chr c)) ∧ cs.length = i ∧ (∀ c ∈ cs, c ∈ letters) ∧ Urn (n + 1 + 1 + 1 + 1 + i) ua H') (by simp; omega) (Gives.rng m) s88 (fun b z => by rw [z]; exact hu8.ne) (fun b z => by rw [z]; exact g8) ⟨[], rfl, rfl, fun c hc => by simp at hc, hu8⟩ (fun i H' H3 acc hh ⟨cs, e1, e2, e3, e4⟩ => ⟨cs, e1, e2, e3, e4.up fun o e => by rw [hh ua hu8.ne]; exact e⟩)
      (fun k hk G3 _ s0 H0 C cl fp => bnd_name 9 c_law_tags.nd rfl (.inl (loc_in rfl)) (.inr (loc_in rfl))) (by
        rintro k _ G3 σ2 ⟨v, _, rfl⟩
        rfl) ?_ ?_
    · rintro i k hk G3 H3 acc σ2 sG3 s3 m3 live ⟨cs, rfl, hcl, hcs, hu3⟩ ⟨v, hv, rfl⟩ s0 H0 C cl fp Q' kq
      have him : i < m := by
        have := (List.getElem?_eq_some_iff.mp hk).1
        simpa using this
      refine we (pe_ix ix_str pe pe (fun _ _ => rfl)) (w_var 2 rfl (w_take (low := 26) T hr hu3 (by omega) (by decide) (by decide) (fun Q h => w_var 0 rfl h) (noG_same _) ed_int fun r H4 r0 r1 hu4 bar4 => ?_))
      obtain ⟨j, rfl⟩ := Int.eq_ofNat_of_zero_le r0
      have hj : j < 26 := by omega
      have la := letter_at j hj
      refine ⟨signsS, (j : Int), 97 + j, rfl, rfl, by rw [signs_len]; exact line _ (by decide), (atI_nat (xs := letters) (by rw [letters_len]; exact hj)).trans la.1, ?_⟩
      refine kq _ (.str (chr (97 + j))) H4 (fun G => .str _) ⟨Same.refl _, fun b o nb e => bar4 b o nb e, bar4.same s3 (m3 ua rfl), fun b h1 h2 => h2, fun b hb => ?_⟩ ⟨cs ++ [97 + j], by rw [List.map_append]; rfl, by rw [List.length_append]; simp [hcl], fun c hc => ?_, hu4⟩
      · by_cases zb : b = ua
        · rw [zb]; exact hu4.ne
        · cases e : H3 b with
          | none => exact absurd e hb
          | some o => rw [bar4 b o zb e]; exact fun z => by cases z
      · rcases List.mem_append.mp hc with hc | hc
        · exact hcs c hc
        · rw [List.mem_singleton] at hc
          rw [hc]
          exact la.2
    · rintro v G9 H9 acc x9 ⟨stem, rfl, hsl, hsin, hu9⟩ hv9
      rw [List.length_range] at hsl hu9
      have e2 : (stem.map fun c => PyData.str (chr c)) = (stem.map chr).map .str := by rw [List.map_map]; rfl
      rw [e2] at hv9
      cases hv9 with
      | lst h1 h2 =>
        cases DqAll.of_strs h2
        refine ⟨_, _, stem.map chr, rfl, rfl, .inl (.of (x9.gh _ _ h1)), ?_, ?_⟩
        · rw [sum_chr, List.length_map, show (Str.ofString "").length = 0 by decide +kernel]
          omega
        rw [join_chr]
        have s99 : Same G6 H9 := (s8.trans x9.gg).trans x9.gh
        have bar9 : Bar ua H H9 := (bar07.trans bar8).trans fun b o hb e => x9.hh b o hb e
        have stl : (strC stem).length = stem.length := rfl
        refine b_cons (s_setV 7 c_law_tags.nd (w_take (low := ((stem.length + 1 : Nat) : Int)) T hr hu9 (by omega) (by omega) (by omega) (fun Q h => w_var 0 rfl h) (noG_same _) (ED.to (ed_add (ed_lenS (z := strC stem) (by rw [stl]; omega) B.len (ed_var 6 rfl (.str _))) (ed_int (i := 1))) (by rw [stl]; congr 1)) fun r H10 r0 r1 hu10 bar10 => ?_))
        obtain ⟨at_, rfl⟩ := Int.eq_ofNat_of_zero_le r0
        have hat : at_ ≤ stem.length := by omega
        have s10 : Same G6 H10 := bar10.same s99 g6
        refine b_one (s_ret (d := .list ((sSort (mids stem at_ first by_ many)).map .str)) ?_ s10 fun v G8 H8 y8 hv8 => q _ v G8 H8 (mids_ok hm4 f0 hby (by omega) hat hsin) hv8 (y8.out _ hu10.ne g6) y8.gh ((hu10.up fun o e => y8.hh _ _ e).more (by omega) (by omega)) ((bar9.trans bar10).trans (Bar.ext y8)))
        refine ed_sortS (d := .list ((mids stem at_ first by_ many).map .str)) hr.units rfl (by simp [mids]; omega) B.sorted ?_
        refine ED.to (ed_lc1 8 (List.range many) (fun k : Nat => PyData.int (k : Int)) (fun k => .str (strC (stem.take at_ ++ codeAt first by_ k :: stem.drop at_))) (by simp; omega) rfl c_law_tags.nd (blk_ok n_law_tags (defScope s_law_tags) _ _ (by decide +kernel)) (ei_range (n := many) (by omega) B.range (ed_var 1 rfl (.int (many : Nat)))) ?_) (by unfold mids; rw [List.map_map]; rfl)
        intro k hk G9 s9 u hu s0 H0 C cl fp
        have hk8 : k < 8 := by have := List.mem_range.mp hk; omega
        have c1 : cutS (strC stem) none (some (at_ : Nat)) = strC (stem.take at_) := by
          unfold cutS
          rw [HT.sIx_nat, HT.sIx_none, stl, Nat.min_eq_left hat]
          rfl
        have c2 : cutS (strC stem) (some (at_ : Nat)) none = strC (stem.drop at_) := by
          unfold cutS
          rw [HT.sIx_nat, HT.sIx_none, stl, Nat.min_eq_left hat, List.take_of_length_le (by show (stem.drop at_).length ≤ _; rw [List.length_drop]; exact Nat.le_refl _)]
          rfl
        cases hu
        have rowk : ((codes first by_).map fun c => PyData.str (chr c))[k]? = some (.str (chr (codeAt first by_ k))) := by
          unfold codes
          simp [hk8]
        have l1 : (strC (stem.take at_)).length ≤ 7 := by show (stem.take at_).length ≤ 7; rw [List.length_take]; omega
        have l2 : (strC (stem.drop at_)).length ≤ 7 := by show (stem.drop at_).length ≤ 7; rw [List.length_drop]; omega
        have l3 : (strC (stem.take at_) ++ chr (codeAt first by_ k)).length ≤ 8 := by
          show ((stem.take at_).toArray ++ #[codeAt first by_ k]).size ≤ 8
          simp
          omega
        have l4 : (chr (codeAt first by_ k)).length = 1 := rfl
        refine ED.to (ed_addS (i := strC (stem.take at_) ++ chr (codeAt first by_ k)) (j := strC (stem.drop at_)) (by omega) (ed_addS (i := strC (stem.take at_)) (j := chr (codeAt first by_ k)) (by omega) ?_ ?_) ?_) ?_
        · exact ED.to (ed_slS (by rw [stl]; omega) (ed_var 6 rfl (.str (strC stem))) eo_none (eo_some (ed_var 7 rfl (.int (at_ : Nat))))) (by rw [c1])
        · exact ed_ix (x := .str (chr (codeAt first by_ k))) rfl (by rw [atI_nat (by simp [codes_len]; exact hk8)]; exact rowk) (ed_var 5 rfl (hv6.up s9)) (ed_var 8 rfl (.int (k : Nat)))
        · exact ED.to (ed_slS (by rw [stl]; omega) (ed_var 6 rfl (.str (strC stem))) (eo_some (ed_var 7 rfl (.int (at_ : Nat)))) eo_none) (by rw [c2])
        congr 1
        refine PySem.W.str_of_cps ?_
        show (((stem.take at_).toArray ++ #[codeAt first by_ k]) ++ (stem.drop at_).toArray).toList = _
        simp [strC]
end
end Wk
set_option maxHeartbeats 4000000
/-! Loops over what is drawn; web. -/
namespace Wk
open PySem PySem.Spec PyProof.Rows L2 Km PySem.Nt
section
variable {X : Cx} {e a b c : Expr} {es : List Expr} {σ : St} {G H : Hp} {d da db dc : PyData} {ds : List PyData} {pos p p2 p3 p4 apos : Pos} {tg iter elt : Expr} {scope : Scope} {D : Ends} {body : List Stmt} {Q : VK}
/-- the turns of a for, the walk known -/
theorem for_tail {α : Type} {J : It} (xs : List α) (enc : α → PyData) (P : α → Hp → St → St → Prop) (I : Nat → St → Hp → Hp → Prop) (gv : Gives J G (xs.map enc)) (h0 : I 0 σ G H) (hI : ∀ i σ' G' H', I i σ' G' H' → Same G' H')
    (hb : ∀ x ∈ xs, ∀ G3, Same G G3 → ∀ σ', Bnd X tg σ' G3 (enc x) (P x G3 σ'))
    (hs : ∀ i x σ' G' H' G3 H3 σ2, xs[i]? = some x → I i σ' G' H' → Same G G' → Ext G' H' G3 H3 → P x G3 σ' σ2 → WB X body { D with nx := fun σ4 H4 => ∃ G4, I (i + 1) σ4 G4 H4 ∧ Same G3 G4, ct := fun σ4 H4 => ∃ G4, I (i + 1) σ4 G4 H4 ∧ Same G3 G4, bk := D.nx } σ2 H3)
    (hd : ∀ σ' G' H', I xs.length σ' G' H' → Same G G' → D.nx σ' H') : tFor (fun _ H R => R J H) (WG X tg) (WB X body) D σ H := by
  have hl : (xs.map enc).length = xs.length := List.length_map _
  refine ⟨fun i m σ' H' => m = xs.length - i ∧ i ≤ xs.length ∧ ∃ G', I i σ' G' H' ∧ Same G G', ⟨_, rfl, Nat.zero_le _, G, h0, Same.refl _⟩, ?_⟩
  rintro i m σ' H' ⟨rfl, hi', G', hI', s1⟩
  have gh := hI i σ' G' H' hI'
  by_cases hlt : i < xs.length
  · refine .inr ⟨gv.go i G' H' s1 gh (by rw [hl]; exact hlt), fun σ4 H4 => ∃ G4, I (i + 1) σ4 G4 H4 ∧ Same G G4, ?_, fun v H3 hy => ?_⟩
    · rintro σ4 H4 ⟨G4, a, b⟩
      exact ⟨xs.length - (i + 1), by omega, rfl, hlt, G4, a, b⟩
    · obtain ⟨d, G3, hd', y3, pd⟩ := gv.yld i G' H' v H3 s1 gh (by rw [hl]; exact hlt) hy
      obtain ⟨x, hx, rfl⟩ : ∃ x, xs[i]? = some x ∧ enc x = d := by
        rw [List.getElem?_map] at hd'
        cases e : xs[i]? with
        | none => rw [e] at hd'; cases hd'
        | some x => rw [e] at hd'; exact ⟨x, rfl, Option.some.inj hd'⟩
      refine hb x (List.mem_of_getElem? hx) G3 (s1.trans y3.gg) σ' H3 v y3.gh pd _ fun σ2 hP => ?_
      have z := hs i x σ' G' H' G3 H3 σ2 hx hI' s1 y3 hP
      have weak : ∀ σ4 H4, (∃ G4, I (i + 1) σ4 G4 H4 ∧ Same G3 G4) → ∃ G4, I (i + 1) σ4 G4 H4 ∧ Same G G4 := fun σ4 H4 ⟨G4, a, b⟩ => ⟨G4, a, (s1.trans y3.gg).trans b⟩
      refine ⟨fun pins st I0 => ?_⟩
      refine thn (z.run pins st I0) fun f s7 q7 => ?_
      cases f with
      | next => obtain ⟨σ7, H7, I7, q⟩ := q7; exact ⟨σ7, H7, I7, weak _ _ q⟩
      | cont => obtain ⟨σ7, H7, I7, q⟩ := q7; exact ⟨σ7, H7, I7, weak _ _ q⟩
      | brk => exact q7
      | ret v => exact q7
  · have e : i = xs.length := by omega
    subst e
    exact .inl ⟨gv.stop _ G' H' s1 gh (by rw [hl]; exact Nat.le_refl _), hd σ' G' H' hI' s1⟩
/-- for tg in iter, iter a list, of whatever kind -/
theorem s_forL (hp : PassesOwn (model X.prog X.w) X.A X.env X.xe) (hc : X.calm = true) (h : WE X iter σ H fun v H1 => ∃ r xs, v = .ref r ∧ H1 r = some (.lst xs) ∧ tFor (fun _ H R => R (Itl X.K r) H) (WG X tg) (WB X body) D σ H1) (hsi : ∀ x, foldedSetIterable iter X.env x = pure x := by intro _; rfl) : WS X (.For tg iter body [] pos) D σ H :=
  ws (ps_for hp hc pi pg pb hsi) (wi (pi_list pe) (we_mono h fun v H1 ⟨r, xs, e, e2, t⟩ => by
    subst e
    exact ⟨r, rfl, ⟨xs, .of e2⟩, t⟩))
theorem cutV_to (xs : List V) (k : Nat) : cutV xs none (some (k : Int)) = xs.take k := by
  unfold cutV
  rw [HT.sIx_nat, HT.sIx_none]
  by_cases h : k ≤ xs.length
  · rw [Nat.min_eq_left h]
    simp
  · have h' : xs.length ≤ k := by omega
    rw [Nat.min_eq_right h', List.take_of_length_le h']
    simp
/-- a[:b] of a list -/
theorem w_cutW {p2 : Pos} (h : WE X a σ H fun v H1 => WE X b σ H1 fun w H2 => ∃ r xs, ∃ k : Nat, v = .ref r ∧ w = .int (k : Nat) ∧ H2 r = some (.lst xs) ∧ ∀ l, H2 l = none → Q (.ref l) (upd H2 l (.lst (xs.take k)))) : WE X (.Subscript a (.Slice none (some b) none p2) pos) σ H Q :=
  we (pe_slice sl_list pe po_none (po_some pe)) (we_mono h fun v H1 h1 => we_mono h1 fun w H2 ⟨r, xs, k, e1, e2, e3, q⟩ => by
    subst e1
    subst e2
    refine ⟨(k : Int), rfl, r, xs, rfl, .of e3, fun l hl => ?_⟩
    rw [cutV_to]
    exact q l hl)
/-- a + b of ints -/
theorem w_addI (h : WE X a σ H fun v H1 => WE X b σ H1 fun w H2 => ∃ i j, v = .int i ∧ w = .int j ∧ Q (.int (i + j)) H2) : WE X (.BinOp a .Add b pos) σ H Q :=
  we (pe_op op_add pe pe) (we_mono h fun v H1 h1 => we_mono h1 fun w H2 ⟨i, j, e1, e2, q⟩ => ⟨i, j, e1, e2, q⟩)
end
/-- a book with its kinds: what is known of the value -/
def HostF (cpus : List Str) (ks : List (Str × List Str)) (G : Hp) (v : V) : Prop := ∃ a x y, v = .ref a ∧ Rd G a (.tup [x, y]) ∧ Dq G x (.tuple (cpus.map .str)) ∧ FrT ((kindsT ks).map rowD) G y
theorem HostF.up {G G2 : Hp} {cpus : List Str} {ks : List (Str × List Str)} {v : V} (h : HostF cpus ks G v) (s : Same G G2) : HostF cpus ks G2 v := by
  obtain ⟨a, x, y, e, h1, h2, h3⟩ := h
  exact ⟨a, x, y, e, h1.up s, h2.up s, h3.up s⟩
def hostD (cpus : List Str) (ks : List (Str × List Str)) : PyData := .tuple [.tuple (cpus.map .str), .tuple ((kindsT ks).map rowD)]
theorem HostF.dq {G : Hp} {cpus : List Str} {ks : List (Str × List Str)} {v : V} (h : HostF cpus ks G v) : Dq G v (hostD cpus ks) := by
  obtain ⟨a, x, y, rfl, h1, h2, h3⟩ := h
  exact .tupR h1 (.cons h2 (.cons h3.dq .nil))
/-- what is known of drawn kinds -/
structure Kinds (cpus : List Str) (ks : List (Str × List Str)) : Prop where
  nd : (ks.map (·.1)).Nodup
  sz : ks.length ≤ 6
  sub : ∀ e ∈ ks, (∀ c ∈ e.2, c ∈ cpus) ∧ e.2.Nodup
  nm : ∀ e ∈ ks, sOk e.1
end Wk
set_option maxHeartbeats 4000000
namespace Wk
open PySem PySem.Spec PyProof.Rows L2 Km PySem.Nt
def kindNames : List Str := ["ax", "by", "cz", "dw", "ev", "fu"]
section
variable {P : Program} {w : World} {K : PySem.W.Frag} {mg : Str → Option Value} {base : Heap}
def SpWeb : Sp := fun vs H Q _ => ∃ (n : Nat) (ua : Addr) (wide : Nat), vs = [.ref ua, .int (wide : Nat), .int 4] ∧ 1 ≤ wide ∧ wide ≤ 4 ∧ Urn n ua H ∧ n + 50 < 1000000000 ∧
  ∀ cpus ks v G2 H2, Tags wide cpus → Kinds cpus ks → ks ≠ [] → HostF cpus ks G2 v → G2 ua = none → Same G2 H2 → Urn (n + 50) ua H2 → Bar ua H H2 → Q v H2
theorem ok_web {f : Addr} {fd : FuncData} (B : Bi mg) (F : Fun K "_law_web" "_law_web" s_law_web f fd) (T : TakeAt P w K mg base 3) (Tg : CalN P w K mg base "_law_tags" ["_law_urn", "_law_many_so"] 3 SpTags) (M : CalN P w K mg base "_law_mixed" ["_law_urn", "_law_pool"] 3 SpMixed) : FnOk P w K mg base CX0 4 f fd ["_law_urn", "_law_wide_so", "_law_many_so"] SpWeb := by
  refine def_ok F c_law_web (fun vs H Q E h => by obtain ⟨n, ua, wide, rfl, _⟩ := h; rfl) fun cdv A outer s H E vs Q hr h => ?_
  obtain ⟨n, ua, wide, rfl, w1, w4, hu, hn, q⟩ := h
  refine b_cons (s_par 3 4 rfl c_law_web.nd (by decide) (wcall (E := eN) Tg hr pasN (wa (pa_cons pe pa) (w_var 0 rfl (wa (pa_cons pe pa_nil) (w_var 1 rfl ⟨n, ua, wide, rfl, w1, w4, hu, by omega, fun cpus tv G2 H2 tg hv g2 s2 hu2 bar2 => ?_⟩))))))
  refine we (pe_lst pa) (wa pa_nil ⟨Nat.zero_le _, fun fa hfa => ?_⟩)
  have nfa : fa ≠ ua := fun z => hu2.ne (by rw [← z]; exact hfa)
  have hHfa : H fa = none := by
    cases e : H fa with
    | none => rfl
    | some o => rw [bar2 fa o nfa e] at hfa; cases hfa
  have gfa : G2 fa = none := s2.free hfa
  generalize hH3 : upd H2 fa (.lst []) = H3
  have f3 : H3 fa = some (.lst []) := by rw [← hH3, upd_same]
  have s3 : Same G2 H3 := by rw [← hH3]; exact s2.mut gfa
  have hu3 : Urn (n + 20) ua H3 := hu2.up fun o e => by rw [← hH3, upd_ne (Ne.symm nfa)]; exact e
  have bar3 : Bar ua H H3 := bar2.trans fun b o h e => by rw [← hH3, upd_ne (ne_of_none e hfa)]; exact e
  -- the loop
  refine b_cons (s_forL PassesOwn.never rfl (w_cutW (w_ed (d := .list (kindNames.map .str)) (ed_lst (eds_cons (ed_str (z := "ax")) (eds_cons (ed_str (z := "by")) (eds_cons (ed_str (z := "cz")) (eds_cons (ed_str (z := "dw")) (eds_cons (ed_str (z := "ev")) (eds_cons (ed_str (z := "fu")) eds_nil))))))) s3 fun lv G4 H4 y4 hlv => w_addI (we pe_int (w_take (low := 4) T hr (hu3.up fun o e => y4.hh _ _ e) (by omega) (by decide) (by decide) (fun Q h => w_var 0 rfl h) (noG_same _) (ed_var 2 rfl (.int 4)) fun r H5 r0 r1 hu5 bar5 => ⟨1, r, rfl, rfl, ?_⟩)))))
  obtain ⟨j, rfl⟩ := Int.eq_ofNat_of_zero_le r0
  have g4 : G4 ua = none := y4.out _ hu3.ne g2
  have g4f : G4 fa = none := y4.out _ (by rw [f3]; exact fun z => by cases z) gfa
  have s5 : Same G4 H5 := bar5.same y4.gh g4
  have f5 : H5 fa = some (.lst []) := bar5 _ _ nfa (y4.hh _ _ f3)
  have bar05 : Bar ua H H5 := (bar3.trans (Bar.ext y4)).trans bar5
  cases hlv with
  | @lst la lxs _ l1 l2 =>
    cases DqAll.of_strs l2
    refine ⟨la, _, 1 + j, rfl, congrArg V.int (by omega), s5 _ _ l1, fun l hl => ⟨l, _, rfl, upd_same, ?_⟩⟩
    rw [← List.map_take]
    have nlu : l ≠ ua := fun z => hu5.ne (by rw [← z]; exact hl)
    have nlf : l ≠ fa := fun z => by rw [z, f5] at hl; cases hl
    have g4l : G4 l = none := s5.free hl
    have hHl : H l = none := by
      cases e : H l with
      | none => rfl
      | some o => rw [bar05 l o nlu e] at hl; cases hl
    refine for_tail (G := upd G4 l (.lst ((kindNames.take (1 + j)).map V.str))) (kindNames.take (1 + j)) PyData.str (fun c G σ σ2 => ∃ v, Dq G v (.str c) ∧ σ2 = σ.set 5 (some v))
      (fun i σ' G' H' => (∃ x, σ' = [some (.ref ua), some (.int (wide : Nat)), some (.int 4), some tv, some (.ref fa), x]) ∧ Same G' H' ∧ G' ua = none ∧ G' fa = none ∧ Urn (n + 21 + 5 * i) ua H' ∧ Bar ua H H' ∧
        ∃ (fs : List V) (ks : List (Str × List Str)), H' fa = some (.lst fs) ∧ DqAll G' fs ((kindsT ks).map rowD) ∧ ks.map (·.1) = (kindNames.take (1 + j)).take i ∧ ∀ e ∈ ks, (∀ c ∈ e.2, c ∈ cpus) ∧ e.2.Nodup)
      (Gives.lst upd_same (DqAll.strs _)) ⟨⟨none, rfl⟩, s5.laid2, by rw [upd_ne (Ne.symm nlu)]; exact g4, by rw [upd_ne (Ne.symm nlf)]; exact g4f, hu5.up fun o e => by rw [upd_ne (Ne.symm nlu)]; exact e, fun b o h e => by rw [upd_ne (ne_of_none e hHl)]; exact bar05 b o h e, [], [], by rw [upd_ne (Ne.symm nlf)]; exact f5, .nil, by simp, fun e he => by simp at he⟩
      (fun i σ' G' H' h => h.2.1) (fun c hc G3 _ σ' => bnd_name 5 c_law_web.nd) ?_ ?_
    · rintro i c σ' G' H' G6 H6 σ2 hi ⟨⟨x0, rfl⟩, sg, k1, k2, hu', bar', fs, ks, hf', hks, hnm, hok⟩ sa y6 ⟨v, hv6, rfl⟩
      cases hv6
      have hi4 : i < 4 := by
        have := (List.getElem?_eq_some_iff.mp hi).1
        rw [List.length_take] at this
        omega
      have f6 := y6.hh _ _ hf'
      have hu6 := hu'.up fun o e => y6.hh _ _ e
      have g6 := y6.out _ hu'.ne k1
      have g6f := y6.out _ (by rw [hf']; exact fun z => by cases z) k2
      have bar6 := bar'.trans (Bar.ext y6)
      have s46 : Same G4 G6 := ((Same.laid g4l).trans sa).trans y6.gg
      have htv : Dq G6 tv (.list (cpus.map .str)) := hv.up (y4.gg.trans s46)
      have fsl : fs.length ≤ 10 := by
        rw [hks.length, List.length_map]
        have h := congrArg List.length hnm
        rw [List.length_map, List.length_take] at h
        show (kindsT ks).length ≤ 10
        unfold kindsT
        rw [List.length_map]
        omega
      have cl : cpus.length = wide := tg.len
      refine b_one (s_dropV (we (pe_bm PySem.F.plainAttrs_list PySem.F.slot_list_append PySem.F.type_list_append mt_append pe pa) (w_var 4 rfl ⟨.inl ⟨rfl, _, .of f6⟩, wa (pa_cons pe pa_nil) (we (pe_tup pa) (wa (pa_cons pe pa) (w_var 5 rfl (wa (pa_cons pe pa_nil) ?_))))⟩)))
      refine we (pe_callTy call_tuple_of rfl B.tuple (by decide +kernel) pa (by decide) (by decide) rfl rfl) (wa (pa_cons pe pa_nil) (we (pe_callB (cr_srt hr.units) rfl B.sorted (by decide +kernel) pa (by decide) (by decide) rfl rfl) (wa (pa_cons pe pa_nil) (w_cutW ?_))))
      refine wcall (E := eN) M hr pasN (wa (pa_cons pe pa) (w_var 0 rfl (wa (pa_cons pe pa_nil) (w_var 3 rfl ⟨n + 21 + 5 * i, G6, ua, tv, _, cpus, rfl, y6.gh, g6, htv, rfl, by omega, hu6, by omega, fun ys mr H7 pm hmr0 hmr s7 hu7 bar7 => ?_⟩))))
      refine w_addI (we pe_int (w_take (low := (wide : Nat)) T hr hu7 (by omega) (by omega) (by omega) (fun Q h => w_var 0 rfl h) s7 (ED.to (ed_len rfl B.len (ed_var 3 rfl htv)) (by simp [cl])) fun r2 H8 z0 z1 hu8 bar8 => ⟨1, r2, rfl, rfl, ?_⟩))
      obtain ⟨t, rfl⟩ := Int.eq_ofNat_of_zero_le z0
      have nmu : mr ≠ ua := fun z => hu6.ne (by rw [← z]; exact hmr0)
      have s8 : Same G6 H8 := bar8.same s7 g6
      have f8 : H8 fa = some (.lst fs) := bar8 _ _ nfa (bar7 _ _ nfa f6)
      refine ⟨mr, _, 1 + t, rfl, congrArg V.int (by omega), bar8 _ _ nmu hmr, fun l9 hl9 => ?_⟩
      have g9 : G6 l9 = none := s8.free hl9
      have n9u : l9 ≠ ua := fun z => hu8.ne (by rw [← z]; exact hl9)
      have n9f : l9 ≠ fa := fun z => by rw [z, f8] at hl9; cases hl9
      rw [← List.map_take]
      generalize hms : ys.take (1 + t) = ms
      refine ⟨upd G6 l9 (.lst (ms.map V.str)), .ref l9, .list (ms.map .str), ms.map .str, rfl, s8.laid2, .lst upd_same (DqAll.strs _), rfl, alike_strs ms, ok_strs ms, by rw [← hms, List.length_map, List.length_take]; omega, depth_strs ms, fun r10 vs10 h10 hd10 => ?_⟩
      rw [dSort_strs] at hd10
      cases DqAll.of_strs hd10
      have n10 : r10 ≠ l9 := fun z => by rw [z, upd_same] at h10; cases h10
      have h10' : H8 r10 = none := by rw [upd_ne n10] at h10; exact h10
      refine ⟨r10, _, rfl, .inl ⟨.of upd_same, fun l11 h11 => ?_⟩⟩
      have n11a : l11 ≠ r10 := fun z => by rw [z, upd_same] at h11; cases h11
      have n11b : l11 ≠ l9 := fun z => by rw [z, upd_ne (Ne.symm n10), upd_same] at h11; cases h11
      have h11' : H8 l11 = none := by rw [upd_ne n11a, upd_ne n11b] at h11; exact h11
      refine ⟨by show 2 ≤ sizeLine; decide, fun l12 h12 => ?_⟩
      have n12a : l12 ≠ l11 := fun z => by rw [z, upd_same] at h12; cases h12
      have n12b : l12 ≠ r10 := fun z => by rw [z, upd_ne (Ne.symm n11a), upd_same] at h12; cases h12
      have n12c : l12 ≠ l9 := fun z => by rw [z, upd_ne (Ne.symm n11b), upd_ne (Ne.symm n10), upd_same] at h12; cases h12
      have h12' : H8 l12 = none := by rw [upd_ne n12a, upd_ne n12b, upd_ne n12c] at h12; exact h12
      generalize hHa : upd (upd (upd (upd H8 l9 (.lst (ms.map V.str))) r10 (.lst ((sSort ms).map V.str))) l11 (.tup ((sSort ms).map V.str))) l12 (.tup [.str c, .ref l11]) = Ha
      have keep : ∀ b o, H8 b = some o → Ha b = some o := fun b o e => by
        rw [← hHa, upd_ne (ne_of_none e h12'), upd_ne (ne_of_none e h11'), upd_ne (ne_of_none e h10'), upd_ne (ne_of_none e hl9)]
        exact e
      have at11 : Ha l11 = some (.tup ((sSort ms).map V.str)) := by rw [← hHa, upd_ne (Ne.symm n12a), upd_same]
      have at12 : Ha l12 = some (.tup [.str c, .ref l11]) := by rw [← hHa, upd_same]
      have n11f : l11 ≠ fa := fun z => by rw [z, f8] at h11'; cases h11'
      have n12f : l12 ≠ fa := fun z => by rw [z, f8] at h12'; cases h12'
      have n11u : l11 ≠ ua := fun z => hu8.ne (by rw [← z]; exact h11')
      have n12u : l12 ≠ ua := fun z => hu8.ne (by rw [← z]; exact h12')
      have g11 : G6 l11 = none := s8.free h11'
      have g12 : G6 l12 = none := s8.free h12'
      generalize hGa : upd (upd G6 l11 (.tup ((sSort ms).map V.str))) l12 (.tup [.str c, .ref l11]) = Ga
      have sGa : Same G6 Ga := by
        rw [← hGa]
        exact (Same.laid g11).trans (Same.laid (by rw [upd_ne n12a]; exact g12))
      have ga11 : Ga l11 = some (.tup ((sSort ms).map V.str)) := by rw [← hGa, upd_ne (Ne.symm n12a), upd_same]
      have ga12 : Ga l12 = some (.tup [.str c, .ref l11]) := by rw [← hGa, upd_same]
      have sGH : Same Ga Ha := fun b o e => by
        by_cases z1 : b = l12
        · rw [z1, ga12] at e
          rw [z1, at12]
          exact e
        · by_cases z2 : b = l11
          · rw [z2, ga11] at e
            rw [z2, at11]
            exact e
          · rw [← hGa, upd_ne z1, upd_ne z2] at e
            exact keep b o (s8 b o e)
      have gaf : Ga fa = none := by rw [← hGa, upd_ne (Ne.symm n12f), upd_ne (Ne.symm n11f)]; exact g6f
      have gau : Ga ua = none := by rw [← hGa, upd_ne (Ne.symm n12u), upd_ne (Ne.symm n11u)]; exact g6
      refine ⟨fa, fs, .ref l12, rfl, rfl, keep _ _ f8, Nat.lt_of_le_of_lt fsl (by decide), Ga, ⟨⟨_, rfl⟩, sGH.mut gaf, gau, gaf, ?_, ?_, fs ++ [.ref l12], ks ++ [(c, sSort ms)], upd_same, ?_, ?_, ?_⟩, sGa⟩
      · exact (hu8.up fun o e => by rw [upd_ne (Ne.symm nfa)]; exact keep _ _ e).more (by omega) (by omega)
      · intro b o hb e
        rw [upd_ne (fun z => by rw [z, hHfa] at e; cases e)]
        exact keep _ _ (bar8 b o hb (bar7 b o hb (bar6 b o hb e)))
      · unfold kindsT
        rw [List.map_append, List.map_append]
        refine DqAll.append ?_ (hks.up (y6.gg.trans sGa))
        exact .cons (.tupR (.inl ga12) (.cons (.str c) (.cons (.tupR (.inl ga11) (DqAll.strs _)) .nil))) .nil
      · rw [List.map_append, hnm, List.take_add_one, hi]
        rfl
      · intro e he
        rcases List.mem_append.mp he with he | he
        · exact hok e he
        · rw [List.mem_singleton] at he
          subst he
          have cnd : cpus.Nodup := tg.asc.imp fun {a b} h e => by rw [e] at h; exact List.lt_irrefl _ h
          refine ⟨fun x hx => ?_, ?_⟩
          · have h1 := (sSort_perm ms).mem_iff.mp hx
            rw [← hms] at h1
            exact pm.mem_iff.mp (List.mem_of_mem_take h1)
          · refine (sSort_perm ms).nodup_iff.mpr ?_
            rw [← hms]
            exact (pm.nodup_iff.mpr cnd).sublist (List.take_sublist _ _)
    · rintro σ' G' H' ⟨⟨x0, rfl⟩, sg, k1, k2, hu', bar', fs, ks, hf', hks, hnm, hok⟩ sa
      have s46 : Same G4 G' := (Same.laid g4l).trans sa
      have htv : Dq G' tv (.list (cpus.map .str)) := hv.up (y4.gg.trans s46)
      rw [List.take_length] at hnm
      have kl : ks.length = 1 + j := by
        have h := congrArg List.length hnm
        rw [List.length_map, List.length_take] at h
        have : kindNames.length = 6 := rfl
        omega
      generalize hGb : upd G' fa (.lst fs) = Gb
      have sGb : Same G' Gb := by rw [← hGb]; exact Same.laid k2
      have sGbH : Same Gb H' := fun b o e => by
        by_cases z : b = fa
        · rw [z, ← hGb, upd_same] at e
          rw [z, hf']
          exact e
        · rw [← hGb, upd_ne z] at e
          exact sg b o e
      have hfd : Dq Gb (.ref fa) (.list ((kindsT ks).map rowD)) := .lst (by rw [← hGb, upd_same]) (hks.up sGb)
      have gbu : Gb ua = none := by rw [← hGb, upd_ne (Ne.symm nfa)]; exact k1
      refine b_one (s_retV (we (pe_tup pa) (wa (pa_cons pe pa) (w_ed (ed_tuple rfl B.tuple (ed_var 3 rfl (htv.up sGb))) sGbH fun xv Gc Hc yc hxv => wa (pa_cons pe pa_nil) (w_ev (ev_tuple B.tuple (ed_var 4 rfl (hfd.up yc.gg))) yc.gh fun yv Gd Hd yd hyv => ⟨by show 2 ≤ sizeLine; decide, fun l hl => ?_⟩)))))
      have gdl : Gd l = none := yd.gh.free hl
      have y2 := yc.trans yd
      have nlu2 : l ≠ ua := fun z => (Same.some y2.hh hu'.ne) (by rw [← z]; exact hl)
      refine q cpus ks (.ref l) (upd Gd l (.tup [xv, yv])) _ tg ⟨?_, by omega, hok, ?_⟩ (fun z => by rw [z] at kl; simp at kl; omega) ⟨l, xv, yv, rfl, .inl upd_same, (hxv.up yd.gg).up (Same.laid gdl), hyv.up (Same.laid gdl)⟩ (by rw [upd_ne (Ne.symm nlu2)]; exact y2.out _ hu'.ne gbu) yd.gh.laid2 ?_ ?_
      · rw [hnm]
        exact (show kindNames.Nodup by decide +kernel).sublist (List.take_sublist _ _)
      · intro e he
        have h1 : e.1 ∈ ks.map (·.1) := List.mem_map.mpr ⟨e, he, rfl⟩
        rw [hnm] at h1
        have h2 := List.mem_of_mem_take h1
        have : ∀ x ∈ kindNames, PyData.strOk x = true := by decide +kernel
        exact this _ h2
      · have hl4 : (kindNames.take (1 + j)).length ≤ 4 := by rw [List.length_take]; omega
        exact (hu'.up fun o e => by rw [upd_ne (Ne.symm nlu2)]; exact y2.hh _ _ e).more (by omega) (by omega)
      · intro b o hb e
        have e2 := y2.hh _ _ (bar' b o hb e)
        rw [upd_ne (ne_of_none e2 hl)]
        exact e2
end
end Wk
set_option maxHeartbeats 1000000
/-! other, drawn. -/
namespace Wk
open PySem PySem.Spec PyProof.Rows L2 Km PySem.Nt
def otherPool : List Str := ["zy", "xw", "vu", "ts", "rq", "po", "nm", "lk", "ji", "hg", "fe", "dc"]
def taskPool : List Str := ["ta", "ub", "vc", "wd", "xe", "yf", "zg", "sh"]
/-- x + y of tuples, y made on the way -/
theorem w_catT {X : Cx} {ds : List PyData} {σ : St} {H : Hp} {Q : VK} {a b : Expr} {pos : Pos} {x : V} (ha : ∀ Q : VK, Q x H → WE X a σ H Q) (hb : WE X b σ H fun y H2 => ∃ G es', ds.length + List.length es' ≤ 100000 ∧ Same G H2 ∧ Dq G x (.tuple ds) ∧ Dq G y (.tuple es') ∧ RD G H2 (.tuple (ds ++ es')) Q) : WE X (.BinOp a .Add b pos) σ H Q :=
  we (pe_op op_catA pe pe) (ha _ (we_mono hb fun y H2 ⟨G, es', hz, s, p1, p2, q⟩ => by
    cases p1 with
    | @tupR r xs _ h1 h2 =>
      cases p2 with
      | @tupR r' ys _ h3 h4 =>
        refine ⟨r, r', xs, ys, rfl, rfl, (.inl (h1.up s)), (.inl (h3.up s)), by rw [h2.length, h4.length]; exact line _ hz, fun e => ?_, fun _ e => ?_, fun _ _ l hl => q _ _ _ (Ext.new s hl) (.tupR (.inl upd_same) (DqAll.append (h4.up (Same.laid (s.free hl))) (h2.up (Same.laid (s.free hl)))))⟩
        · subst e
          cases h2
          exact q _ G H2 (Ext.refl s) (.tupR h3 h4)
        · subst e
          cases h4
          rw [List.append_nil] at q
          exact q _ G H2 (Ext.refl s) (.tupR h1 h2)))
section
variable {P : Program} {w : World} {K : PySem.W.Frag} {mg : Str → Option Value} {base : Heap}
def ROther (ds : List PyData) (d : PyData) : Prop := ∃ xs : List Str, ds = [.list (xs.map .str)] ∧ ((show Str from "zy") ∉ xs) ∧ d = .str "zy"
theorem ok_other {f : Addr} {fd : FuncData} (B : Bi mg) (F : Fun K "_law_other" "_law_other" s_law_other f fd) : FnOk P w K mg base CX0 1 f fd ["_law_tags_here"] (PureSp ROther) := by
  refine pure_ok F c_law_other (fun ds d h => by obtain ⟨x, rfl, _⟩ := h; rfl) fun cdv A outer s H E G vs ds d Q hr sG hv hR q => ?_
  obtain ⟨xs, rfl, hn, rfl⟩ := hR
  obtain ⟨v, rfl, hv1⟩ := hv.one
  refine b_cons (s_set 1 c_law_other.nd (d := .list (otherPool.map .str)) (ed_lst (eds_cons (ed_str (z := "zy")) (eds_cons (ed_str (z := "xw")) (eds_cons (ed_str (z := "vu")) (eds_cons (ed_str (z := "ts")) (eds_cons (ed_str (z := "rq")) (eds_cons (ed_str (z := "po")) (eds_cons (ed_str (z := "nm")) (eds_cons (ed_str (z := "lk")) (eds_cons (ed_str (z := "ji")) (eds_cons (ed_str (z := "hg")) (eds_cons (ed_str (z := "fe")) (eds_cons (ed_str (z := "dc")) eds_nil))))))))))))) sG fun pv G1 H1 y1 hp => ?_)
  have hv2 := hv1.up y1.gg
  refine b_one (s_ret ?_ y1.gh (RD.ext q y1))
  have fl : otherPool.filter (fun x => !decide (x ∈ xs)) = (show Str from "zy") :: (otherPool.drop 1).filter (fun x => !decide (x ∈ xs)) := by
    show ((show Str from "zy") :: otherPool.drop 1).filter _ = _
    rw [List.filter_cons, if_pos (by simpa using hn)]
  refine ed_ix (i := 0) (d := .list ((otherPool.filter (fun x => !decide (x ∈ xs))).map .str)) rfl (by rw [fl, show (0 : Int) = ((0 : Nat) : Int) from rfl, atI_nat (by rw [List.map_cons, List.length_cons]; omega), List.map_cons]; simp only [List.getElem?_cons_zero]) ?_ ed_int
  refine ed_lc1f 2 otherPool PyData.str (fun x => !decide (x ∈ xs)) PyData.str (by decide) rfl c_law_other.nd (blk_ok n_law_other (defScope s_law_other) _ _ (by decide +kernel)) (ei_seq rfl (ed_var 1 rfl hp)) ?_ ?_
  · intro x hx G3 s3 u hu s0 H0 C cl fp
    exact ets_one (et_ni rfl (ed_var 2 rfl hu) (ed_var 0 rfl (hv2.up s3)))
  · intro x hx _ G3 s3 u hu s0 H0 C cl fp
    exact ed_var 2 rfl hu
/-! ### drawn -/
structure Drawn (ks : List (Str × List Str)) (line : List (Str × Str)) : Prop where
  nd : (line.map (·.1)).Nodup
  pool : ∀ e ∈ line, e.1 ∈ taskPool
  known : ∀ e ∈ line, e.2 ∈ ks.map (·.1)
  sz : line.length ≤ 5
theorem lay_rows : ∀ ks : List (Str × List Str), (∀ e ∈ ks, sOk e.1 ∧ ∀ c ∈ e.2, sOk c) → PyData.canLayAll0 ((kindsT ks).map rowD) = true
  | [], _ => by simp [kindsT, PyData.canLayAll0]
  | e :: ks, h => by
    have h1 := h e List.mem_cons_self
    have h2 := lay_rows ks fun x hx => h x (List.mem_cons_of_mem _ hx)
    have h3 : PyData.strOk e.1 = true := h1.1
    have h4 := lay_strs e.2 h1.2
    unfold kindsT at h2 ⊢
    simp only [List.map_cons, rowD, PyData.canLayAll0, PyData.canLay0, h3, h4, Bool.and_self, Bool.true_and]
    exact h2
theorem dep_rows : ∀ ks : List (Str × List Str), PyData.depthAll ((kindsT ks).map rowD) ≤ 2
  | [] => by simp [kindsT, PyData.depthAll]
  | e :: ks => by
    have h2 := dep_rows ks
    unfold kindsT at h2 ⊢
    simp only [List.map_cons, rowD, PyData.depthAll, PyData.depth, dep_strs]
    omega
theorem shaped_rows {ks : List (Str × List Str)} (h : ∀ e ∈ ks, sOk e.1 ∧ ∀ c ∈ e.2, sOk c) : SeqAt.shaped (.tuple ((kindsT ks).map rowD)) = true :=
  shaped_of (by simp only [PyData.canLay0]; exact lay_rows ks h) (by have := dep_rows ks; simp only [PyData.depth]; omega)
def SpDrawn : Sp := fun vs H Q _ => ∃ (n : Nat) (ua : Addr) (G : Hp) (hv : V) (cpus : List Str) (ks : List (Str × List Str)), vs = [.ref ua, hv, .int 5] ∧ Same G H ∧ G ua = none ∧ HostF cpus ks G hv ∧ Kinds cpus ks ∧ ks ≠ [] ∧ (∀ c ∈ cpus, sOk c) ∧ Urn n ua H ∧ n + 30 < 1000000000 ∧
  ∀ line v G2 H2, Drawn ks line → Dq G2 v (.tuple (line.map prD)) → Same G G2 → G2 ua = none → Same G2 H2 → Urn (n + 30) ua H2 → Bar ua H H2 → Q v H2
theorem ok_drawn {f : Addr} {fd : FuncData} (B : Bi mg) (F : Fun K "_law_drawn" "_law_drawn" s_law_drawn f fd) (T : TakeAt P w K mg base 3) (O : CalN P w K mg base "_law_of" ["_law_urn", "_law_some_so"] 3 SpOf) (M : CalN P w K mg base "_law_mixed" ["_law_urn", "_law_pool"] 3 SpMixed) : FnOk P w K mg base CX0 4 f fd ["_law_urn", "_law_host_here", "_law_most_so"] SpDrawn := by
  refine def_ok F c_law_drawn (fun vs H Q E h => by obtain ⟨n, ua, G, hv, cpus, ks, rfl, _⟩ := h; rfl) fun cdv A outer s H E vs Q hr h => ?_
  obtain ⟨n, ua, G, hv, cpus, ks, rfl, sG, gu, hh, kd, kne, cok, hu, hn, q⟩ := h
  have hd := hh.dq
  have rok : ∀ e ∈ ks, sOk e.1 ∧ ∀ c ∈ e.2, sOk c := fun e he => ⟨kd.nm e he, fun c hc => cok c ((kd.sub e he).1 c hc)⟩
  refine b_cons (s_set 3 c_law_drawn.nd (d := .tuple []) (ed_tup eds_nil) sG fun fv G1 H1 y1 hfv => ?_)
  have hd1 := hd.up y1.gg
  refine b_cons (s_if (k := true) (ET.to (et_ne hr.units (shaped_rows rok) (shaped_of rfl (by decide)) (ed_ix (i := 1) rfl rfl (ed_var 1 rfl hd1) ed_int) (ed_tup eds_nil)) ?_) y1.gh (fun _ G2 H2 y2 => ?_) fun h => by cases h)
  · cases ks with
    | nil => exact absurd rfl kne
    | cons e ks => simp [kindsT, PyData.eqv, PyData.eqvAll]
  have hd2 := hd1.up y2.gg
  have y12 := y1.trans y2
  have hu2 := hu.up fun o e => y12.hh _ _ e
  have g2 := y12.out _ hu.ne gu
  have hfv2 := hfv.up y2.gg
  refine b_one (s_forL PassesOwn.never rfl (w_cutW (wcall (E := eN) M hr pasN (wa (pa_cons pe pa) (w_var 0 rfl (wa (pa_cons pe pa_nil) (w_ed (d := .list (taskPool.map .str)) (ed_lst (eds_cons (ed_str (z := "ta")) (eds_cons (ed_str (z := "ub")) (eds_cons (ed_str (z := "vc")) (eds_cons (ed_str (z := "wd")) (eds_cons (ed_str (z := "xe")) (eds_cons (ed_str (z := "yf")) (eds_cons (ed_str (z := "zg")) (eds_cons (ed_str (z := "sh")) eds_nil))))))))) y2.gh fun pv G3 H3 y3 hpv => ?_)))))))
  have hu3 := hu2.up fun o e => y3.hh _ _ e
  have g3 := y3.out _ hu2.ne g2
  refine ⟨n, G3, ua, pv, _, taskPool, rfl, y3.gh, g3, hpv, rfl, by decide, hu3, by show n + 8 < _; omega, fun ys mr H4 pm hmr0 hmr s4 hu4 bar4 => ?_⟩
  refine w_take (low := 6) T hr hu4 (by show n + 8 + 1 < _; omega) (by decide) (by decide) (fun Q h => w_var 0 rfl h) s4 (ed_add (ed_var 2 rfl (.int 5)) (ed_int (i := 1))) fun r H5 r0 r1 hu5 bar5 => ?_
  obtain ⟨j, rfl⟩ := Int.eq_ofNat_of_zero_le r0
  have nmu : mr ≠ ua := fun z => hu3.ne (by rw [← z]; exact hmr0)
  have s5 : Same G3 H5 := bar5.same s4 g3
  refine ⟨mr, _, j, rfl, rfl, bar5 _ _ nmu hmr, fun l hl => ⟨l, _, rfl, upd_same, ?_⟩⟩
  rw [← List.map_take]
  have nlu : l ≠ ua := fun z => hu5.ne (by rw [← z]; exact hl)
  have g3l : G3 l = none := s5.free hl
  have bar15 : Bar ua H H5 := (Bar.ext (y12.trans y3)).trans (bar4.trans bar5)
  have hHl : H l = none := by
    cases e : H l with
    | none => rfl
    | some o => rw [bar15 l o nlu e] at hl; cases hl
  generalize hts : ys.take j = ts
  have tnd : ts.Nodup := by
    rw [← hts]
    exact (pm.nodup_iff.mpr (show taskPool.Nodup by decide +kernel)).sublist (List.take_sublist _ _)
  have tin : ∀ t ∈ ts, t ∈ taskPool := fun t ht => by
    rw [← hts] at ht
    exact pm.mem_iff.mp (List.mem_of_mem_take ht)
  have tl : ts.length ≤ 5 := by
    rw [← hts, List.length_take]
    omega
  refine for_tail (G := upd G3 l (.lst (ts.map V.str))) ts PyData.str (fun c G σ σ2 => ∃ v, Dq G v (.str c) ∧ σ2 = σ.set 4 (some v))
    (fun i σ' G' H' => ∃ fv x line, σ' = [some (.ref ua), some hv, some (.int 5), some fv, x] ∧ Same G' H' ∧ G' ua = none ∧ Urn (n + 9 + i) ua H' ∧ Bar ua H H' ∧ Dq G' fv (.tuple (line.map prD)) ∧ line.map (·.1) = ts.take i ∧ ∀ e ∈ line, e.2 ∈ ks.map (·.1))
    (Gives.lst upd_same (DqAll.strs _)) ⟨fv, none, [], rfl, s5.laid2, by rw [upd_ne (Ne.symm nlu)]; exact g3, hu5.up fun o e => by rw [upd_ne (Ne.symm nlu)]; exact e, fun b o h e => by rw [upd_ne (ne_of_none e hHl)]; exact bar15 b o h e, (hfv2.up y3.gg).up (Same.laid g3l), by simp, fun e he => by simp at he⟩
    (fun i σ' G' H' ⟨_, _, _, _, h, _⟩ => h) (fun c hc G3 _ σ' => bnd_name 4 c_law_drawn.nd) ?_ ?_
  · rintro i c σ' G' H' G6 H6 σ2 hi ⟨fv', x0, line, rfl, sg, k1, hu', bar', hf', hnm, hok⟩ sa y6 ⟨v, hv6, rfl⟩
    cases hv6
    have hi5 : i < 5 := by
      have := (List.getElem?_eq_some_iff.mp hi).1
      omega
    have hu6 := hu'.up fun o e => y6.hh _ _ e
    have g6 := y6.out _ hu'.ne k1
    have s36 : Same G2 G6 := y3.gg.trans (((Same.laid g3l).trans sa).trans y6.gg)
    have hd6 := hd2.up s36
    have ll : line.length ≤ 5 := by
      have h := congrArg List.length hnm
      rw [List.length_map, List.length_take] at h
      omega
    refine b_one (s_setV 3 c_law_drawn.nd (w_catT (ds := line.map prD) (x := fv') (fun Q h => w_var 3 rfl h) ?_))
    refine we (pe_tup pa) (wa (pa_cons pe pa_nil) (we (pe_tup pa) (wa (pa_cons pe pa) (w_var 4 rfl (wa (pa_cons pe pa_nil) (we (pe_ix ix_seq pe pe (fun _ _ => rfl)) ?_))))))
    refine w_of O hr hu6 (by omega) (fun Q h => w_var 0 rfl h) y6.gh g6 (ed_ix (i := 1) (x := .tuple ((kindsT ks).map rowD)) rfl rfl (ed_var 1 rfl hd6) ed_int) rfl (by
      cases ks with
      | nil => exact absurd rfl kne
      | cons e ks => simp [kindsT]) (by rw [List.length_map]; unfold kindsT; rw [List.length_map]; have := kd.sz; omega) fun x u G7 H7 hx hux s7 g7 s77 hu7 bar7 => we pe_int ?_
    obtain ⟨row, hrow, rfl⟩ := List.mem_map.mp hx
    obtain ⟨e, he, rfl⟩ := List.mem_map.mp hrow
    cases hux with
    | tupR a1 a2 =>
      obtain ⟨v1, v2, rfl, b1, b2⟩ := a2.two
      cases b1
      refine .inr (.inl ⟨_, _, 0, _, rfl, rfl, .inl (a1.up s77), rfl, ⟨by show 2 ≤ sizeLine; decide, fun l8 h8 => ⟨by show 1 ≤ sizeLine; decide, fun l9 h9 => ?_⟩⟩⟩)
      have n98 : l9 ≠ l8 := fun z => by rw [z, upd_same] at h9; cases h9
      have h9' : H7 l9 = none := by rw [upd_ne n98] at h9; exact h9
      have n8u : l8 ≠ ua := fun z => hu7.ne (by rw [← z]; exact h8)
      have n9u : l9 ≠ ua := fun z => hu7.ne (by rw [← z]; exact h9')
      have g8 : G7 l8 = none := s77.free h8
      have g9 : G7 l9 = none := s77.free h9'
      have g9' : (upd G7 l8 (.tup [.str c, .str e.1])) l9 = none := by rw [upd_ne n98]; exact g9
      generalize hG9 : upd (upd G7 l8 (.tup [.str c, .str e.1])) l9 (.tup [.ref l8]) = G9
      have s79 : Same G7 G9 := by
        rw [← hG9]
        exact (Same.laid g8).trans (Same.laid g9')
      have s99 : Same G9 (upd (upd H7 l8 (.tup [.str c, .str e.1])) l9 (.tup [.ref l8])) := by
        rw [← hG9]
        exact s77.laid2.laid2
      have g9u : G9 ua = none := by rw [← hG9, upd_ne (Ne.symm n9u), upd_ne (Ne.symm n8u)]; exact g7
      have h8at : G9 l8 = some (.tup [.str c, .str e.1]) := by rw [← hG9, upd_ne (Ne.symm n98), upd_same]
      have h9at : G9 l9 = some (.tup [.ref l8]) := by rw [← hG9, upd_same]
      refine ⟨G9, [prD (c, e.1)], by rw [List.length_map]; show _ + 1 ≤ _; omega, s99, hf'.up ((y6.gg.trans s7).trans s79), .tupR (.inl h9at) (.cons (.tupR (.inl h8at) (.cons (.str c) (.cons (.str e.1) .nil))) .nil), fun v10 G10 H10 y10 hv10 => ⟨G10, ⟨v10, _, line ++ [(c, e.1)], rfl, y10.gh, ?_, ?_, ?_, ?_, ?_, ?_⟩, ?_⟩⟩
      · refine y10.out _ ?_ g9u
        rw [upd_ne (Ne.symm n9u), upd_ne (Ne.symm n8u)]
        exact hu7.ne
      · refine (hu7.up fun o e => y10.hh _ _ ?_).more (by omega) (by omega)
        rw [upd_ne (Ne.symm n9u), upd_ne (Ne.symm n8u)]
        exact e
      · intro b o hb e0
        have e7 := bar7 b o hb (y6.hh _ _ (bar' b o hb e0))
        refine y10.hh _ _ ?_
        rw [upd_ne (ne_of_none e7 h9'), upd_ne (ne_of_none e7 h8)]
        exact e7
      · rw [List.map_append]
        exact hv10
      · rw [List.map_append, hnm, List.take_add_one, hi]
        rfl
      · intro e' he'
        rcases List.mem_append.mp he' with he' | he'
        · exact hok e' he'
        · rw [List.mem_singleton] at he'
          subst he'
          exact List.mem_map.mpr ⟨e, he, rfl⟩
      · exact (s7.trans s79).trans y10.gg
  · rintro σ' G' H' ⟨fv', x0, line, rfl, sg, k1, hu', bar', hf', hnm, hok⟩ sa
    rw [List.take_length] at hnm
    refine b_one (s_retV (w_var 3 rfl (q line fv' G' H' ⟨by rw [hnm]; exact tnd, fun e he => ?_, hok, ?_⟩ hf' (y12.gg.trans (y3.gg.trans ((Same.laid g3l).trans sa))) k1 sg (hu'.more (by omega) (by omega)) bar')))
    · have h1 : e.1 ∈ line.map (·.1) := List.mem_map.mpr ⟨e, he, rfl⟩
      rw [hnm] at h1
      exact tin _ h1
    · have h := congrArg List.length hnm
      rw [List.length_map] at h
      omega
end
end Wk
set_option maxHeartbeats 4000000
/-! lots. -/
namespace Wk
open PySem PySem.Spec PyProof.Rows L2 Km PySem.Nt
def tS (r : List Str) : PyData := .tuple (r.map .str)
def lenD (r : List Str) : PyData := .tuple [.int (r.length : Nat), tS r]
theorem map_ex {α β : Type} (f : α → β) : ∀ {l m : List β}, l.Perm m → ∀ xs : List α, m = xs.map f → ∃ ys : List α, l = ys.map f ∧ ys.Perm xs := by
  intro l m p
  induction p with
  | nil => intro xs h; cases xs with
    | nil => exact ⟨[], rfl, .refl _⟩
    | cons _ _ => cases h
  | cons x p ih =>
    intro xs h
    cases xs with
    | nil => cases h
    | cons a xs =>
      injection h with h1 h2
      obtain ⟨ys, e, q⟩ := ih xs h2
      exact ⟨a :: ys, by rw [e, h1]; rfl, q.cons _⟩
  | swap x y l =>
    intro xs h
    match xs, h with
    | a :: b :: xs, h =>
      injection h with h1 h2
      injection h2 with h2 h3
      exact ⟨b :: a :: xs, by rw [h1, h2, h3]; rfl, .swap _ _ _⟩
  | trans p q ih1 ih2 =>
    intro xs h
    obtain ⟨ys, e, q1⟩ := ih2 xs h
    obtain ⟨zs, e2, q2⟩ := ih1 ys e
    exact ⟨zs, e2, q2.trans q1⟩
theorem alike_lens (g : List (List Str)) : PySem.W.AllAlike (g.map lenD) := PySem.W.AllAlike.of fun a b => by
  have h : ∀ xs ys : List Str, PySem.W.alikeAll (xs.map PyData.str) (ys.map PyData.str) = true := by
    intro xs
    induction xs with
    | nil => intro ys; simp [PySem.W.alikeAll]
    | cons x xs ih => intro ys; cases ys with
      | nil => simp [PySem.W.alikeAll]
      | cons y ys => simp only [List.map_cons, PySem.W.alikeAll, ih ys, PySem.W.alike, Bool.and_self]
  show PySem.W.alike (.tuple [_, tS a]) (.tuple [_, tS b]) = true
  simp only [PySem.W.alike, PySem.W.alikeAll, tS, h, Bool.and_self]
theorem ok_lens (g : List (List Str)) : SrtOk (g.map lenD) := .inl (PySem.W.Sortable.tuples fun b => ⟨_, _, rfl⟩)
section
variable {P : Program} {w : World} {K : PySem.W.Frag} {mg : Str → Option Value} {base : Heap}
def SpLots : Sp := fun vs H Q _ => ∃ (G : Hp) (v : V) (xs : List Str), vs = [v] ∧ Same G H ∧ Dq G v (.list (xs.map .str)) ∧ xs.length ≤ 5 ∧ ∀ rows : List (List Str), (∀ r ∈ rows, r.Sublist (sSort xs)) → RD G H (.list (rows.map tS)) Q
theorem ok_lots {f : Addr} {fd : FuncData} (B : Bi mg) (F : Fun K "_law_lots" "_law_lots" s_law_lots f fd) : FnOk P w K mg base CX0 1 f fd ["_law_tags_here"] SpLots := by
  refine def_ok F c_law_lots (fun vs H Q E h => by obtain ⟨G, v, xs, rfl, _⟩ := h; rfl) fun cdv A outer s H E vs Q hr h => ?_
  obtain ⟨G, v, xs, rfl, sG, hv, hl, q⟩ := h
  have yl : (sSort xs).length ≤ 5 := by rw [(sSort_perm xs).length_eq]; exact hl
  refine b_cons (s_set 1 c_law_lots.nd (d := .list [.tuple []]) (ed_lst (eds_cons (ed_tup eds_nil) eds_nil)) sG fun fv G1 H1 y1 hfv => ?_)
  have hv1 := hv.up y1.gg
  refine b_cons (s_for (G := G1) (sSort xs) PyData.str (fun c G σ σ2 => ∃ v, Dq G v (.str c) ∧ σ2 = σ.set 2 (some v))
    (fun i σ' G' H' => ∃ fv x, ∃ rows : List (List Str), σ' = [some v, some fv, x, none] ∧ Ext G H G' H' ∧ Dq G' fv (.list (rows.map tS)) ∧ rows.length = 2 ^ i ∧ ∀ r ∈ rows, r.Sublist ((sSort xs).take i))
    PassesOwn.never rfl (ei_seq rfl (ed_sortS (d := .list (xs.map .str)) hr.units rfl (by omega) B.sorted (ed_var 0 rfl hv1))) y1.gh (fun G2 H2 y => ⟨fv, none, [[]], rfl, y1.trans y, hfv.up y.gg, rfl, by simp⟩) (fun i σ' G' H' ⟨_, _, _, _, h, _⟩ => h.gh) (fun c hc G3 s3 σ' => bnd_name 2 c_law_lots.nd) ?_ ?_)
  · rintro i c σ' G' H' G6 H6 σ2 hi ⟨fv', x0, rows, rfl, x1, hf, len, sub⟩ sa y6 ⟨cv, hcv, rfl⟩
    cases hcv
    have hi5 : i < 5 := by
      have := (List.getElem?_eq_some_iff.mp hi).1
      omega
    have l16 : rows.length ≤ 16 := by
      rw [len]
      exact Nat.le_trans (Nat.pow_le_pow_right (by decide) (show i ≤ 4 by omega)) (by decide)
    have rl : ∀ r ∈ rows, r.length ≤ 5 := fun r hr => by
      have h1 := (sub r hr).length_le
      have h2 := List.length_take_le' i (sSort xs)
      omega
    have hf6 := hf.up y6.gg
    refine b_one (s_set 1 c_law_lots.nd (ed_catL (ds := rows.map tS) (es' := (rows.map (· ++ [c])).map tS) (by rw [List.length_map, List.length_map, List.length_map]; omega) (ed_var 1 rfl hf6) (ED.to (ed_lc1 3 rows tS (fun r => tS (r ++ [c])) (by omega) rfl c_law_lots.nd (blk_ok n_law_lots (defScope s_law_lots) _ _ (by decide +kernel)) (ei_seq rfl (ed_var 1 rfl hf6)) ?_) (by rw [List.map_map]; rfl))) y6.gh fun v7 G7 H7 y7 hv7 => ⟨G7, ⟨v7, _, rows ++ rows.map (· ++ [c]), rfl, (x1.trans y6).trans y7, by rw [List.map_append]; exact hv7, ?_, ?_⟩, y7.gg⟩)
    · intro r hm G8 s8 u hu s0 H0 C cl fp
      have e : tS (r ++ [c]) = .tuple (r.map .str ++ [.str c]) := by unfold tS; rw [List.map_append]; rfl
      rw [e]
      exact ed_catT (by rw [List.length_map]; have := rl r hm; show _ + 1 ≤ _; omega) (ed_var 3 rfl hu) (ed_tup (eds_cons (ed_var 2 rfl (.str c)) eds_nil) (by show 1 ≤ _; decide))
    · rw [List.length_append, List.length_map, len, Nat.pow_succ]
      omega
    · intro r hm
      have tk : (sSort xs).take (i + 1) = (sSort xs).take i ++ [c] := by rw [List.take_add_one, hi]; rfl
      rw [tk]
      rcases List.mem_append.mp hm with hm | hm
      · exact (sub r hm).trans (List.sublist_append_left _ _)
      · obtain ⟨r0, h0, rfl⟩ := List.mem_map.mp hm
        exact (sub r0 h0).append (.refl _)
  · rintro σ' G' H' ⟨fv', x0, rows, rfl, x1, hf, len, sub⟩ sa
    rw [List.take_length] at sub
    have l32 : rows.length ≤ 32 := by
      rw [len]
      exact Nat.le_trans (Nat.pow_le_pow_right (by decide) yl) (by decide)
    obtain ⟨rows2, e2, p2⟩ := map_ex lenD (dSort_perm (rows.map lenD)) rows rfl
    refine b_one (s_ret (d := .list (rows2.map tS)) ?_ x1.gh (RD.ext (q rows2 fun r hm => sub r (p2.mem_iff.mp hm)) x1))
    refine ed_lc1 2 rows2 lenD tS (by rw [p2.length_eq]; omega) rfl c_law_lots.nd (blk_ok n_law_lots (defScope s_law_lots) _ _ (by decide +kernel)) (ei_seq (d := .list (rows2.map lenD)) rfl ?_) ?_
    · rw [← e2]
      refine ed_sorted (d := .list (rows.map lenD)) hr.units rfl (alike_lens rows) (ok_lens rows) (by rw [List.length_map]; omega) (fun x hx => ?_) B.sorted (ed_lc1 3 rows tS lenD (by omega) rfl c_law_lots.nd (blk_ok n_law_lots (defScope s_law_lots) _ _ (by decide +kernel)) (ei_seq rfl (ed_var 1 rfl hf)) ?_)
      · obtain ⟨r, _, rfl⟩ := List.mem_map.mp hx
        have := dep_strs r
        simp only [lenD, tS, PyData.depth, PyData.depthAll, this]
        omega
      · intro r hm G8 s8 u hu s0 H0 C cl fp
        refine ed_tup (eds_cons (ED.to (ed_len (ds := r.map .str) rfl B.len (ed_var 3 rfl hu)) (by rw [List.length_map])) (eds_cons (ed_var 3 rfl hu) eds_nil)) (by show 2 ≤ _; decide)
    · intro r hm G8 s8 u hu s0 H0 C cl fp
      exact ed_ix (i := 1) rfl rfl (ed_var 2 rfl hu) ed_int
end
end Wk
set_option maxHeartbeats 4000000
/-! all. -/
namespace Wk
open PySem PySem.Spec PyProof.Rows L2 Km PySem.Nt
def rD (r : List (Str × Str)) : PyData := .tuple (r.map prD)
def ml (ks : List (Str × List Str)) (line : List (Str × Str)) : List (Str × List Str) := line.map fun e => (e.1, maskOf ks e.2)
def stepM (own : Str) (m : List Str) (bits : List (Str × Str)) : List (List (Str × Str)) := bits :: ((m.filter fun b => decide (b ∉ bits.map (·.1))).map fun b => bits ++ [(b, own)])
theorem rows_step (own : Str) (m : List Str) (r : List (Str × List Str)) (found : List (List (Str × Str))) : rowsM ((own, m) :: r) found = rowsM r (found.flatMap (stepM own m)) := rfl
theorem step_len (own : Str) (m : List Str) (bits : List (Str × Str)) (h : m.length ≤ 6) : (stepM own m bits).length ≤ 7 := by
  unfold stepM
  rw [List.length_cons, List.length_map]
  have := List.length_filter_le (fun b => decide (b ∉ bits.map (·.1))) m
  omega
theorem flat_len {own : Str} {m : List Str} (h : m.length ≤ 6) : ∀ found : List (List (Str × Str)), (found.flatMap (stepM own m)).length ≤ 7 * found.length
  | [] => by simp
  | b :: found => by
    rw [List.flatMap_cons, List.length_append, List.length_cons]
    have h1 := step_len own m b h
    have h2 := flat_len (own := own) h found
    omega
theorem flat_each {own : Str} {m : List Str} {i : Nat} : ∀ {found : List (List (Str × Str))}, (∀ r ∈ found, r.length ≤ i) → ∀ r ∈ found.flatMap (stepM own m), r.length ≤ i + 1 := fun {found} h r hr => by
  obtain ⟨b, hb, h1⟩ := List.mem_flatMap.mp hr
  have h2 := h b hb
  rcases List.mem_cons.mp h1 with rfl | h1
  · omega
  · obtain ⟨c, _, rfl⟩ := List.mem_map.mp h1
    rw [List.length_append]
    simp
    omega
theorem alike_rows (g : List (List (Str × Str))) : PySem.W.AllAlike (g.map rD) := PySem.W.AllAlike.of fun a b => by
  have h : ∀ xs ys : List (Str × Str), PySem.W.alikeAll (xs.map prD) (ys.map prD) = true := by
    intro xs
    induction xs with
    | nil => intro ys; simp [PySem.W.alikeAll]
    | cons x xs ih => intro ys; cases ys with
      | nil => simp [PySem.W.alikeAll]
      | cons y ys => simp only [List.map_cons, PySem.W.alikeAll, ih ys, prD, PySem.W.alike, Bool.and_self]
  show PySem.W.alike (rD a) (rD b) = true
  simp only [PySem.W.alike, rD, h]
section
variable {P : Program} {w : World} {K : PySem.W.Frag} {mg : Str → Option Value} {base : Heap}
theorem ev_kinds {X : Cx} {σ : St} {G : Hp} {cpus : List Str} {ks : List (Str × List Str)} {a : Expr} {j : Nat} {pos p2 : Pos} (ha : EV X a σ G (HostF cpus ks)) : EV X (.Subscript a (.Constant (.int 1) j p2) pos) σ G (FrT ((kindsT ks).map rowD)) := fun H s Q q =>
  we (pe_ix ix_seq pe pe (fun _ _ => rfl)) (ha H s _ fun v G2 H2 y hh => we pe_int (by
    obtain ⟨a, x, y', rfl, h1, h2, h3⟩ := hh
    exact .inr (.inl ⟨_, _, 1, _, rfl, rfl, .inl (h1.up y.gh), rfl, q _ G2 H2 y h3⟩)))
def SpAll : Sp := fun vs H Q _ => ∃ (G : Hp) (v1 v2 : V) (cpus : List Str) (ks : List (Str × List Str)) (line : List (Str × Str)), vs = [v1, v2] ∧ Same G H ∧ HostF cpus ks G v1 ∧ Dq G v2 (.tuple (line.map prD)) ∧ Fair ks line ∧ line.length ≤ 5 ∧ (∀ e ∈ line, (maskOf ks e.2).length ≤ 6) ∧ ∀ rows : List (List (Str × Str)), rows.Perm (rowsM (ml ks line) [[]]) → RD G H (.list (rows.map fun r => rD (pSort r))) Q
theorem ok_all {f : Addr} {fd : FuncData} (B : Bi mg) (F : Fun K "_law_all" "_law_all" s_law_all f fd) : FnOk P w K mg base CX0 1 f fd ["_law_host_here", "_law_line_so"] SpAll := by
  refine def_ok F c_law_all (fun vs H Q E h => by obtain ⟨G, v1, v2, cpus, ks, line, rfl, _⟩ := h; rfl) fun cdv A outer s H E vs Q hr h => ?_
  obtain ⟨G, v1, v2, cpus, ks, line, rfl, sG, hh, hv2, fair, l5, m6, q⟩ := h
  refine b_cons (s_par 2 3 rfl c_law_all.nd (by decide) (w_ev (ev_dict (t := kindsT ks) rfl (by unfold kindsT; rw [List.map_map]; exact fair.kinds) B.dict (ev_kinds (ev_var 0 rfl hh))) sG fun mv G1 H1 y1 hT => w_ed (d := .list [.tuple []]) (ed_lst (eds_cons (ed_tup eds_nil) eds_nil)) y1.gh fun fv G2 H2 y2 hfv => ?_))
  have x2 := y1.trans y2
  have hT2 := hT.up y2.gg
  refine b_cons (s_for (G := G2) line prD (fun e G σ σ2 => ∃ v w, Dq G v (.str e.1) ∧ Dq G w (.str e.2) ∧ σ2 = (σ.set 4 (some v)).set 5 (some w))
    (fun i σ' G' H' => ∃ fv a b c d e, ∃ rows r0 : List (List (Str × Str)), σ' = [some v1, some v2, some mv, some fv, a, b, c, d, e, none] ∧ Ext G H G' H' ∧ Dq G' fv (.list (rows.map rD)) ∧ rows.length ≤ 7 ^ i ∧ (∀ r ∈ rows, r.length ≤ i) ∧ rows = [] :: r0 ∧ rowsM (ml ks line) [[]] = rowsM ((ml ks line).drop i) rows)
    PassesOwn.never rfl (ei_seq rfl (ed_var 1 rfl (hv2.up x2.gg))) y2.gh (fun G3 H3 y => ⟨fv, none, none, none, none, none, [[]], [], rfl, x2.trans y, hfv.up y.gg, by simp, by simp, rfl, rfl⟩) (fun i σ' G' H' ⟨_, _, _, _, _, _, _, _, _, h, _⟩ => h.gh) (fun e he G3 s3 σ' => bnd_pair 4 5 rfl rfl c_law_all.nd) ?_ ?_)
  · rintro i e σ' G' H' G6 H6 σ2 hi ⟨fv', a0, b0, c0, d0, e0, rows, r0, rfl, x3, hf, len, each, hd0, eq⟩ sa y6 ⟨ov, tv, hov, htv, rfl⟩
    cases hov
    cases htv
    have hem : e ∈ line := List.mem_of_getElem? hi
    have hi5 : i < 5 := by
      have := (List.getElem?_eq_some_iff.mp hi).1
      omega
    have l7 : rows.length ≤ 2401 := Nat.le_trans len (Nat.le_trans (Nat.pow_le_pow_right (by decide) (show i ≤ 4 by omega)) (by decide))
    have m6e := m6 e hem
    generalize hm : maskOf ks e.2 = m at m6e
    have him : (ml ks line)[i]? = some (e.1, m) := by unfold ml; rw [List.getElem?_map, hi, ← hm]; rfl
    rw [drop_at him, rows_step] at eq
    have x6 := x3.trans y6
    have hf6 := hf.up y6.gg
    have hT6 : Tab (kindsT ks) G6 mv := hT2.up (sa.trans y6.gg)
    refine b_cons (s_set 6 c_law_all.nd (d := .list []) (ed_lst eds_nil) y6.gh fun lv G7 H7 y7 hlv => ?_)
    have hf7 := hf6.up y7.gg
    have hT7 := hT6.up y7.gg
    refine b_cons (s_for (G := G7) rows rD (fun c G σ σ2 => ∃ v, Dq G v (rD c) ∧ σ2 = σ.set 7 (some v))
      (fun j σ' G' H' => ∃ lv d e', σ' = [some v1, some v2, some mv, some fv', some (.str e.1), some (.str e.2), some lv, d, e', none] ∧ Ext G H G' H' ∧ Dq G' lv (.list (((rows.take j).flatMap (stepM e.1 m)).map rD)))
      PassesOwn.never rfl (ei_seq rfl (ed_var 3 rfl hf7)) y7.gh (fun G8 H8 y => ⟨lv, _, _, rfl, (x6.trans y7).trans y, hlv.up y.gg⟩) (fun j σ' G' H' ⟨_, _, _, _, h, _⟩ => h.gh) (fun c hc G3 s3 σ' => bnd_name 7 c_law_all.nd) ?_ ?_)
    · rintro j bits σ' G8 H8 G9 H9 σ2 hj ⟨lv', d1, e1, rfl, x8, hl8⟩ sb y9 ⟨bv, hbv, rfl⟩
      have hbm : bits ∈ rows := List.mem_of_getElem? hj
      have bl : bits.length ≤ 5 := by have := each bits hbm; omega
      refine b_cons (s_set 8 c_law_all.nd (d := .list ((bits.map (·.1)).map .str)) (ED.to (ed_lc1 9 bits prD (fun p => .str p.1) (by omega) rfl c_law_all.nd (blk_ok n_law_all (defScope s_law_all) _ _ (by decide +kernel)) (ei_seq rfl (ed_var 7 rfl hbv)) (fun p hp G10 s10 u hu s0 H0 C cl fp => ed_ix (i := 0) (ds := [.str p.1, .str p.2]) rfl rfl (ed_var 9 rfl hu) ed_int)) (by rw [List.map_map]; rfl)) y9.gh fun uv G10 H10 y10 huv => ?_)
      have hl10 := hl8.up (y9.gg.trans y10.gg)
      have hb10 := hbv.up y10.gg
      have s710 : Same G7 G10 := sb.trans (y9.gg.trans y10.gg)
      have hl5 : ((rows.take j).flatMap (stepM e.1 m)).length ≤ 16807 := by
        have h1 := flat_len (own := e.1) m6e (rows.take j)
        have h2 := List.length_take_le' j rows
        omega
      refine b_one (s_set 6 c_law_all.nd (d := .list (((rows.take (j + 1)).flatMap (stepM e.1 m)).map rD)) (ED.to (ed_catL (ds := ((rows.take j).flatMap (stepM e.1 m)).map rD ++ [rD bits]) (es' := ((m.filter fun b => decide (b ∉ bits.map (·.1))).map fun b => rD (bits ++ [(b, e.1)])))
        (by
          rw [List.length_append, List.length_map, List.length_map]
          have := List.length_filter_le (fun b => decide (b ∉ bits.map (·.1))) m
          show _ + 1 + _ ≤ _
          omega)
        (ed_catL (by rw [List.length_map]; show _ + 1 ≤ _; omega) (ed_var 6 rfl hl10) (ed_lst (eds_cons (ed_var 7 rfl hb10) eds_nil) (by show 1 ≤ _; decide)))
        (ed_lc1f 9 m PyData.str (fun b => decide (b ∉ bits.map (·.1))) (fun b => rD (bits ++ [(b, e.1)])) (by omega) rfl c_law_all.nd (blk_ok n_law_all (defScope s_law_all) _ _ (by decide +kernel))
          (ei_seq (d := .tuple (m.map .str)) rfl (ed_dget (k := e.2) (hu1 hr) (ev_var 2 rfl (hT7.up s710)) (ed_var 5 rfl (.str _)) (by rw [pget_kinds (fair.known e hem), hm]))) ?_ ?_)) ?_) y10.gh fun v11 G11 H11 y11 hv11 => ⟨G11, ⟨v11, _, _, rfl, ((x8.trans y9).trans y10).trans y11, hv11⟩, y10.gg.trans y11.gg⟩)
      · intro c hc G12 s12 u hu s0 H0 C cl fp
        rw [decide_not]
        exact ets_one (et_ni rfl (ed_var 9 rfl hu) (ed_var 8 rfl (huv.up s12)))
      · intro c hc _ G12 s12 u hu s0 H0 C cl fp
        have er : rD (bits ++ [(c, e.1)]) = .tuple (bits.map prD ++ [prD (c, e.1)]) := by unfold rD; rw [List.map_append]; rfl
        rw [er]
        exact ed_catT (by rw [List.length_map]; show _ + 1 ≤ _; omega) (ed_var 7 rfl (hb10.up s12)) (ed_tup (eds_cons (ed_tup (eds_cons (ed_var 9 rfl hu) (eds_cons (ed_var 4 rfl (.str e.1)) eds_nil)) (by show 2 ≤ _; decide)) eds_nil) (by show 1 ≤ _; decide))
      · have tk : rows.take (j + 1) = rows.take j ++ [bits] := by rw [List.take_add_one, hj]; rfl
        rw [tk, List.flatMap_append, List.map_append, List.append_assoc]
        congr 2
        simp only [List.flatMap_cons, List.flatMap_nil, List.append_nil, stepM, List.map_cons, List.map_map, List.singleton_append]
        rfl
    · rintro σ' G8 H8 ⟨lv', d1, e1, rfl, x8, hl8⟩ sb
      rw [List.take_length] at hl8
      refine b_one (s_set 3 c_law_all.nd (ed_var 6 rfl hl8) x8.gh fun v11 G11 H11 y11 hv11 => ⟨G11, ⟨v11, _, _, _, _, _, rows.flatMap (stepM e.1 m), (stepM e.1 m []).drop 1 ++ r0.flatMap (stepM e.1 m), rfl, x8.trans y11, hv11, ?_, flat_each each, ?_, eq⟩, (y7.gg.trans sb).trans y11.gg⟩)
      · have := flat_len (own := e.1) m6e rows
        rw [Nat.pow_succ]
        omega
      · rw [hd0]
        rfl
  · rintro σ' G' H' ⟨fv', a0, b0, c0, d0, e0, rows, r0, rfl, x3, hf, len, each, hd0, eq⟩ sa
    have hz : rows.length ≤ 16807 := Nat.le_trans len (Nat.le_trans (Nat.pow_le_pow_right (by decide) l5) (by decide))
    have eq2 : rowsM (ml ks line) [[]] = rows := by
      rw [eq, List.drop_of_length_le (by unfold ml; rw [List.length_map]; exact Nat.le_refl _)]
      rfl
    obtain ⟨rows2, e2, p2⟩ := map_ex (fun r => rD (pSort r)) (dSort_perm (rows.map fun r => rD (pSort r))) rows rfl
    refine b_one (s_ret (d := .list (rows2.map fun r => rD (pSort r))) ?_ x3.gh (RD.ext (q rows2 (by rw [eq2]; exact p2)) x3))
    rw [← e2]
    refine ed_sorted (d := .list (rows.map fun r => rD (pSort r))) hr.units rfl ?_ ?_ (by rw [List.length_map]; omega) (fun x hx => ?_) B.sorted (ed_lc1 7 rows rD (fun r => rD (pSort r)) (by omega) rfl c_law_all.nd (blk_ok n_law_all (defScope s_law_all) _ _ (by decide +kernel)) (ei_seq rfl (ed_var 3 rfl hf)) ?_)
    · have h := alike_rows (rows.map pSort)
      rw [List.map_map] at h
      exact h
    · refine .inr ⟨r0.map fun r => rD (pSort r), by rw [hd0, List.map_cons]; simp [pSort, rD], fun d hd => ?_⟩
      obtain ⟨r, _, rfl⟩ := List.mem_map.mp hd
      exact ⟨_, rfl⟩
    · obtain ⟨r, _, rfl⟩ := List.mem_map.mp hx
      have h : ∀ g : List (Str × Str), PyData.depthAll (g.map prD) ≤ 1 := by
        intro g
        induction g with
        | nil => simp [PyData.depthAll]
        | cons x g ih => simp only [List.map_cons, prD, PyData.depthAll, PyData.depth] at ih ⊢; omega
      have := h (pSort r)
      simp only [rD, PyData.depth]
      omega
    · intro r hm G8 s8 u hu s0 H0 C cl fp
      exact ed_tuple rfl B.tuple (ed_sortP (g := r) (d := rD r) hr.units rfl (by have := each r hm; omega) B.sorted (ed_var 7 rfl hu))
end
end Wk
set_option maxHeartbeats 4000000
/-! heard. -/
namespace Wk
open PySem PySem.Spec PyProof.Rows L2 Km PySem.Nt
theorem Ext.grow {G H G2 H2 : Hp} {d : Addr} {o : HO} (x : Ext G H G2 H2) (hd : H2 d = none) : Ext G H G2 (upd H2 d o) :=
  ⟨x.gg, fun b o2 e => by rw [upd_ne (ne_of_none (x.hh b o2 e) hd)]; exact x.hh b o2 e, x.gh.mut (x.gh.free hd), x.out⟩
section
variable {P : Program} {w : World} {K : PySem.W.Frag} {mg : Str → Option Value} {base : Heap} {C fI : Addr}
theorem w_eds {X : Cx} {es : List Expr} {σ : L2.St} {G H : Hp} {ds : List PyData} {Q : List V → Hp → Prop} (h : EDs X es σ G ds) (s : Same G H) (q : ∀ vs G2 H2, Ext G H G2 H2 → DqAll G2 vs ds → Q vs H2) : WA X es σ H Q := h H s Q q
theorem tk0 {X : Cx} : Takes X (fun _ _ _ _ => False) := fun _ _ x =>
  let ⟨_, _, _, _, _, _, _, _, _, _, _, _, _, _, _, _, z⟩ := x
  z.elim
/-- a call of what may raise, in a try -/
theorem wcallT {X : Cx} {W : WX} {x : Str} {ps : List Str} {k : Nat} {sp : Sp} {Q : VK} {σ : L2.St} {H : Hp} {e : Expr} {es : List Expr} {p pos : Pos} (Cc : CalX X (L2.CX X.prog X.w) x ps k sp) (hr : Room k X.A) (tk : Takes X W) (h : WA X (e :: es) σ H fun vs H1 => sp vs H1 Q (L2.WE W σ)) (hg : Gl X x := by rfl) (hdb : (x == ("__debug__" : Str)) = false := by decide)
    (he : starEach (e :: es) X.env = (false, eval e X.env) :: starEach es X.env := by rfl) (hpl : (backTo pos (starEach es X.env)).any (·.1) = false := by rfl) : WE X (.Call (.Name x p) (e :: es) [] pos) σ H Q := by
  obtain ⟨f, fd, F, hm, hk, hb⟩ := Cc.ex
  exact we (pe_callS (E := L2.WE W) F hr hg hm hk hb (fun σ => passAt tk σ) pa hdb he hpl) h
def SpHeard : Sp := fun vs H Q _ => ∃ (G : Hp) (door : Int) (v1 v2 v3 : V) (ks : List (Str × List Str)) (line : List (Str × Str)) (xs : List Str) (n : Str), vs = [.int door, v1, v2, v3] ∧ Same G H ∧ Book G v1 v2 v3 ks line xs ∧ missing line xs = some n ∧ RD G H (.list [.str "no task", .str n, .bool true]) Q
theorem ok_heard {f : Addr} {fd : FuncData} (B : Bi mg) (LE : mg "LookupError" = none) (T : NoTxt P K mg C fI) (F : Fun K "_law_heard" "_law_heard" s_law_heard f fd) (Cn : Cal P w K mg base (L2.CX P w) "can_seat" ["book", "ready", "some"] 11 (SpCan C)) (Se : Cal P w K mg base (L2.CX P w) "a_seating" ["book", "ready", "some"] 11 (SpSeating C)) : FnOk P w K mg base CX0 12 f fd ["_law_door", "_law_host_here", "_law_line_so", "_law_bits"] SpHeard := by
  refine def_ok F c_law_heard (fun vs H Q E h => by obtain ⟨G, door, v1, v2, v3, ks, line, xs, n, rfl, _⟩ := h; rfl) fun cdv A outer s H E vs Q hr h => ?_
  obtain ⟨G, door, v1, v2, v3, ks, line, xs, n, rfl, sG, bk, mis, q⟩ := h
  refine b_cons (s_pair 4 5 rfl c_law_heard.nd (w_ed ed_non sG fun u1 G1 H1 y1 h1 => w_ed ed_non y1.gh fun u2 G2 H2 y2 h2 => fun r hr2 => ?_))
  cases h1
  cases h2
  have x2 := Ext.grow (o := .tup [.non, .non]) (y1.trans y2) hr2
  generalize upd H2 r (.tup [.non, .non]) = H3 at x2
  have bk2 := bk.up x2.gg
  obtain ⟨b, hb, ib⟩ := bk2.b
  obtain ⟨l, hl, il⟩ := bk2.l
  obtain ⟨d, hd, ed⟩ := bk2.s
  refine b_cons (ws (ps_try_as (i := 6) (c := .ref C) (Wout := fun _ _ _ _ => False)
    (tb := fun W D σ H => ∀ (pn : List (Addr × Obj)) (xe : Value → Shared → Prop), Takes ((CXn P w K mg base n_law_heard "_law_heard" s_law_heard f cdv A outer s _ E).tr pn xe) W → WB ((CXn P w K mg base n_law_heard "_law_heard" s_law_heard f cdv A outer s _ E).tr pn xe) _ D σ H)
    (ts := fun a cls d D σ H => ∀ (oe : Obj) (pn : List (Addr × Obj)), Zc cls d oe → (∃ vs, oe.data = .fields vs) → WB ((CXn P w K mg base n_law_heard "_law_heard" s_law_heard f cdv A outer s _ E).suite a ((a, oe) :: pn)) _ D σ H)
    rfl rfl c_law_heard.nd rfl rfl ⟨rfl, by decide, Or.inl T.gC⟩ tk0 (fun W pn xe tk _ => ⟨fun pins s σ H D I h => (h pn xe tk).run pins s I⟩) (fun a oe cls d pn hz hf => ⟨fun pins s σ H D I h => (h oe pn hz hf).run pins s I⟩)) ?_)
  intro pn xe tk
  revert tk
  generalize hW : wAs _ (.ref C) 6 _ _ _ = W
  intro tk
  have out : ∀ G4 H4, Ext G2 H3 G4 H4 → Out C n G4 H4 (L2.WE W [some (.int door), some v1, some v2, some v3, some .non, some .non, none]) := fun G4 H4 y4 G5 H5 dd y5 hdd => by
    rw [← hW]
    refine ⟨true, T.te, fun _ a ha oe pn hz hf => ?_, fun q => Bool.noConfusion q⟩
    have x5 := (x2.trans (y4.trans y5)).grow (o := .xd [(("name" : Str), .str n)]) hdd
    have hat : upd H5 dd (.xd [(("name" : Str), .str n)]) dd = some (.xd [(("name" : Str), .str n)]) := upd_same
    generalize upd H5 dd (.xd [(("name" : Str), .str n)]) = H6 at x5 hat
    refine b_one (s_setV 5 c_law_heard.nd (we (pe_lst pa) (wa (pa_cons pe pa) (we pe_str (wa (pa_cons (pe_noName T hz hf pe) pa) (w_var 6 rfl ⟨rfl, rfl, dd, _, rfl, hat, ?_⟩))))))
    refine wa (pa_cons (pe_callB (cr_isNo T hz hf) rfl B.isinstance boot_isinstance (pa_cons pe (pa_cons (pe_ty LE rfl rfl (by decide) (by decide)) pa_nil)) (by decide) (by decide) rfl rfl) pa_nil) ?_
    refine w_var 6 rfl ?_
    refine And.intro rfl (And.intro rfl ⟨dd, _, rfl, hat, ?_⟩)
    refine ⟨by show 3 ≤ sizeLine; decide, fun t ht => ?_⟩
    have x6 := x5.trans (Ext.new (o := .lst [.str "no task", .str n, .bl true]) x5.gh ht)
    have hc : Dq (upd G5 t (.lst [.str "no task", .str n, .bl true])) (.ref t) (.list [.str "no task", .str n, .bool true]) := .lst upd_same (.cons (.str _) (.cons (.str _) (.cons (.bl _) .nil)))
    refine b_one (s_ret (ed_if (k := false) (et_isN (ed_var 5 rfl hc) ed_non) (fun h => by cases h) fun _ => ed_var 5 rfl hc) x6.gh (RD.ext q x6))
  refine b_one (s_setV 4 c_law_heard.nd (we (pe_ifExp pt pe pe) ((et_eqI (ed_var 0 rfl (.int door)) (ed_int (i := 0))) H3 x2.gh _ fun G4 H4 y4 => ?_)))
  have bk4 := bk2.up y4.gg
  by_cases hz : door = 0
  · refine ite_t (by simpa using hz) ?_
    refine wcallT Cn hr tk (w_eds (eds_cons (ed_var 1 rfl (hb.up y4.gg)) (eds_cons (ed_var 2 rfl (hl.up y4.gg)) (eds_cons (ed_var 3 rfl (hd.up y4.gg)) eds_nil))) y4.gh fun vs G5 H5 y5 ps => ?_)
    obtain ⟨w1, w2, w3, rfl, p1, p2, p3⟩ := three ps
    exact ⟨G5, w1, w2, w3, ks, line, xs, rfl, y5.gh, ⟨⟨b, p1, ib⟩, ⟨l, p2, il⟩, ⟨d, p3, ed⟩, bk.fair, bk.sz⟩, fun n2 h2 => by rw [mis] at h2; cases h2; exact out G5 H5 (y4.trans y5), fun h2 => by rw [mis] at h2; cases h2⟩
  · refine ite_f (by simpa using hz) ?_
    refine wcallT Se hr tk (w_eds (eds_cons (ed_var 1 rfl (hb.up y4.gg)) (eds_cons (ed_var 2 rfl (hl.up y4.gg)) (eds_cons (ed_var 3 rfl (hd.up y4.gg)) eds_nil))) y4.gh fun vs G5 H5 y5 ps => ?_)
    obtain ⟨w1, w2, w3, rfl, p1, p2, p3⟩ := three ps
    exact ⟨G5, w1, w2, w3, ks, line, xs, rfl, y5.gh, ⟨⟨b, p1, ib⟩, ⟨l, p2, il⟩, ⟨d, p3, ed⟩, bk.fair, bk.sz⟩, fun n2 h2 => by rw [mis] at h2; cases h2; exact out G5 H5 (y4.trans y5), fun h2 => by rw [mis] at h2; cases h2⟩
end
end Wk
set_option maxHeartbeats 4000000
/-! The law of who can be seated, in plain Lean. -/
namespace Wk
open PySem PySem.Spec PyProof.Rows L2 Km PySem.Nt
theorem toks_pr {p q : Str × Str} (h : PySem.W.keyToks (prD p) = PySem.W.keyToks (prD q)) : p = q := by
  have h' : ([.inl 1, .inr p.1.cps.toList, .inl 1, .inr p.2.cps.toList, .inl 0] : List (Int ⊕ List Nat)) = [.inl 1, .inr q.1.cps.toList, .inl 1, .inr q.2.cps.toList, .inl 0] := h
  simp only [List.cons.injEq, Sum.inr.injEq, true_and, and_true] at h'
  exact Prod.ext (PySem.W.str_of_cps h'.1) (PySem.W.str_of_cps h'.2)
theorem prD_inj {p q : Str × Str} (h : prD p = prD q) : p = q := toks_pr (congrArg _ h)
theorem map_prD_inj {xs ys : List (Str × Str)} (h : xs.map prD = ys.map prD) : xs = ys := List.map_inj_right (fun a b h => prD_inj h) |>.mp h
theorem pSort_uniq {xs ys : List (Str × Str)} (p : xs.Perm ys) : pSort xs = pSort ys := by
  have h := dSort_uniq (p.map prD) fun a ha b hb e => by
    obtain ⟨x, _, rfl⟩ := List.mem_map.mp ha
    obtain ⟨y, _, rfl⟩ := List.mem_map.mp hb
    rw [toks_pr e]
  rw [pSort_eq, pSort_eq] at h
  exact map_prD_inj h
theorem pr_lt {a b : Str × Str} (h : PySem.W.dataLt (prD b) (prD a) = false) (ne : a.1 ≠ b.1) : a.1.cps.toList < b.1.cps.toList := by
  have h1 : PyProof.Rows.lexLt PyProof.Rows.itemOrd [.inl 1, .inr b.1.cps.toList, .inl 1, .inr b.2.cps.toList, .inl 0] [.inl 1, .inr a.1.cps.toList, .inl 1, .inr a.2.cps.toList, .inl 0] = false := h
  rw [PyProof.Rows.lex_self] at h1
  have h2 : PyProof.Rows.strKind.blt b.1.cps.toList a.1.cps.toList = false := (PyProof.Rows.lex_false.mp h1).1
  cases h3 : PyProof.Rows.strKind.blt a.1.cps.toList b.1.cps.toList with
  | true => exact of_decide_eq_true h3
  | false => exact absurd (PySem.W.str_of_cps (PyProof.Rows.strKind.total _ _ h3 h2)) ne
theorem pSort_fst {g : List (Str × Str)} (nd : (g.map (·.1)).Nodup) : ((pSort g).map (·.1)).Nodup := ((pSort_perm g).map _).nodup_iff.mpr nd
theorem pSort_asc {g : List (Str × Str)} (nd : (g.map (·.1)).Nodup) : Asc ((pSort g).map (·.1)) := by
  have up := dSort_up (g.map prD)
  rw [pSort_eq, List.pairwise_map] at up
  have n2 := pSort_fst nd
  unfold List.Nodup at n2
  rw [List.pairwise_map] at n2
  unfold Asc
  rw [List.pairwise_map]
  exact (up.and n2).imp fun {a b} h => pr_lt h.1 h.2
theorem sSort_sub {r xs : List Str} (h : r.Sublist (sSort xs)) : sSort r = r := by
  have up := dSort_up (xs.map PyData.str)
  rw [dSort_strs] at up
  have e := dSort_is (.refl (r.map PyData.str)) (up.sublist (h.map _)) (strs_inj r)
  rw [dSort_strs] at e
  exact map_str_inj e
/-- a book and what is ready, as the law asks of them -/
structure Okay (cpus : List Str) (ks : List (Str × List Str)) (line : List (Str × Str)) : Prop where
  fair : Fair ks line
  sub : ∀ e ∈ ks, ∀ c ∈ e.2, c ∈ cpus
  u6 : cpus.length ≤ 6
  nmc : ∀ c ∈ cpus, Nm c
  nmt : ∀ e ∈ line, Nm e.1
  m6 : ∀ e ∈ line, (maskOf ks e.2).length ≤ 6
  k6 : ∀ e ∈ ks, e.2.length ≤ 6
  ks6 : ks.length ≤ 6
  l5 : line.length ≤ 5
section
variable {cpus : List Str} {ks : List (Str × List Str)} {line : List (Str × Str)} {rows : List (List (Str × Str))} {r : List Str} {g : List (Str × Str)}
theorem Okay.gnd (O : Okay cpus ks line) (t : Str) : ∀ c ∈ mayOf ks line t, c ∈ cpus := fun c hc => by
  unfold mayOf maskOf at hc
  cases e : ks.find? fun e => decide (e.1 = kindOf line t) with
  | none => rw [e] at hc; simp at hc
  | some x =>
    rw [e] at hc
    exact O.sub x (List.mem_of_find?_eq_some e) c hc
theorem kind_of : ∀ {line : List (Str × Str)} {e : Str × Str}, (line.map (·.1)).Nodup → e ∈ line → kindOf line e.1 = e.2
  | [], _, _, h => nomatch h
  | x :: line, e, nd, h => by
    rw [List.map_cons, List.nodup_cons] at nd
    unfold kindOf
    rcases List.mem_cons.mp h with rfl | h
    · simp [List.find?_cons]
    · have ne : x.1 ≠ e.1 := fun z => nd.1 (by rw [z]; exact List.mem_map.mpr ⟨e, h, rfl⟩)
      have ih := kind_of nd.2 h
      unfold kindOf at ih
      rw [List.find?_cons, decide_eq_false ne]
      exact ih
theorem Okay.may (O : Okay cpus ks line) {e : Str × Str} (h : e ∈ line) : mayOf ks line e.1 = maskOf ks e.2 := by
  unfold mayOf
  rw [kind_of O.fair.tasks h]
theorem ml_tasks : (ml ks line).map (·.1) = line.map (·.1) := by
  unfold ml
  rw [List.map_map]
  rfl
theorem Okay.lots (O : Okay cpus ks line) (hr : r.Sublist (sSort (tasksOf line))) : r.Nodup ∧ (∀ t ∈ r, t ∈ line.map (·.1)) ∧ r.length ≤ 5 := by
  have pm := sSort_perm (tasksOf line)
  refine ⟨(pm.nodup_iff.mpr O.fair.tasks).sublist hr, fun t ht => pm.mem_iff.mp (hr.subset ht), ?_⟩
  have h1 := hr.length_le
  rw [pm.length_eq] at h1
  unfold tasksOf at h1
  rw [List.length_map] at h1
  have := O.l5
  omega
theorem fits0 (m : Str → List Str) : Fits m ([] : List (Str × Str)) := ⟨by simp, fun p hp => by simp at hp⟩
/-- a seating of the line's tasks stands among the rows -/
theorem Okay.row (O : Okay cpus ks line) (pr : rows.Perm (rowsM (ml ks line) [[]])) (fg : Fits (mayOf ks line) g) (gT : (g.map (·.2)).Nodup) (own : ∀ t ∈ g.map (·.2), t ∈ line.map (·.1)) : ∃ g' ∈ rows, g'.Perm g := by
  have nd : ((ml ks line).map (·.1)).Nodup := by rw [ml_tasks]; exact O.fair.tasks
  have h := rows_full g fg.nd (ml ks line) [[]] [] (by simp) nd (fun tm ht c hc => by
    obtain ⟨e, he, rfl⟩ := List.mem_map.mp ht
    have h1 := fg.may _ (cpuOf_mem hc)
    rw [O.may he] at h1
    exact h1) (by simp)
  exact ⟨_, pr.mem_iff.mpr h, arr_perm gT nd fun t ht => by rw [ml_tasks]; exact own t ht⟩
/-- .. and whatever stands there is one -/
theorem Okay.isRow (O : Okay cpus ks line) (pr : rows.Perm (rowsM (ml ks line) [[]])) (hg : g ∈ rows) : Fits (mayOf ks line) g ∧ (g.map (·.2)).Nodup ∧ ∀ t ∈ g.map (·.2), t ∈ line.map (·.1) := by
  obtain ⟨b0, hb, ext, rfl, h1, h2, h3⟩ := rows_sound (ml ks line) [[]] g (pr.mem_iff.mp hg)
  rw [List.mem_singleton] at hb
  subst hb
  rw [List.nil_append] at h1 ⊢
  rw [ml_tasks] at h2
  refine ⟨⟨h1 (by simp), fun p hp => ?_⟩, O.fair.tasks.sublist h2, fun t ht => h2.subset ht⟩
  obtain ⟨m, hm, hc⟩ := h3 p hp
  obtain ⟨e, he, z⟩ := List.mem_map.mp hm
  injection z with z1 z2
  rw [← z1, O.may he, z2]
  exact hc
theorem Okay.seat (O : Okay cpus ks line) (pr : rows.Perm (rowsM (ml ks line) [[]])) (hr : r.Sublist (sSort (tasksOf line))) (em : matchM (mayOf ks line) 8 r [] = some g) :
    (∃ g' ∈ rows, pSort g' = pSort g) ∧ sSort ((pSort g).map (·.2)) = r ∧ Seats ks line (pSort g) := by
  obtain ⟨rn, ro, r5⟩ := O.lots hr
  obtain ⟨fg, pm⟩ := match_some O.gnd (Nat.le_trans O.u6 (by decide)) r [] g (fits0 _) em
  have pm : (g.map (·.2)).Perm r := by simpa using pm
  have gT := pm.nodup_iff.mpr rn
  have own : ∀ t ∈ g.map (·.2), t ∈ line.map (·.1) := fun t ht => ro t (pm.mem_iff.mp ht)
  have pp := pSort_perm g
  refine ⟨?_, ?_, ?_⟩
  · obtain ⟨g', h1, h2⟩ := O.row pr fg gT own
    exact ⟨g', h1, pSort_uniq h2⟩
  · rw [sSort_uniq ((pp.map (·.2)).trans pm)]
    exact sSort_sub hr
  · refine ⟨fun p hp => ?_, pSort_asc fg.nd, fun p hp => ?_, (pp.map (·.2)).nodup_iff.mpr gT, ?_⟩
    · have hg := pp.mem_iff.mp hp
      obtain ⟨e, he, z⟩ := List.mem_map.mp (own p.2 (List.mem_map.mpr ⟨p, hg, rfl⟩))
      exact ⟨O.nmc _ (O.gnd _ _ (fg.may p hg)), by rw [← z]; exact O.nmt e he⟩
    · have hg := pp.mem_iff.mp hp
      exact ⟨own p.2 (List.mem_map.mpr ⟨p, hg, rfl⟩), fg.may p hg⟩
    · rw [pp.length_eq]
      have := pm.length_eq
      rw [List.length_map] at this
      omega
theorem Okay.none (O : Okay cpus ks line) (pr : rows.Perm (rowsM (ml ks line) [[]])) (hr : r.Sublist (sSort (tasksOf line))) (em : matchM (mayOf ks line) 8 r [] = none) : ∀ g ∈ rows, sSort ((pSort g).map (·.2)) ≠ r := fun g hg e => by
  obtain ⟨rn, ro, r5⟩ := O.lots hr
  obtain ⟨fg, gT, own⟩ := O.isRow pr hg
  have pm : r.Perm (g.map (·.2)) := by
    rw [← e]
    exact (sSort_perm _).trans ((pSort_perm g).map _)
  exact match_none O.gnd (Nat.le_trans O.u6 (by decide)) r [] (fits0 _) (by simpa using rn) em g fg gT fun t ht => pm.mem_iff.mp (by simpa using ht)
theorem Okay.there (O : Okay cpus ks line) (pr : rows.Perm (rowsM (ml ks line) [[]])) (hr : r.Sublist (sSort (tasksOf line))) : (rows.any fun g => decide (sSort ((pSort g).map (·.2)) = r)) = (matchM (mayOf ks line) 8 r []).isSome := by
  cases em : matchM (mayOf ks line) 8 r [] with
  | none =>
    rw [List.any_eq_false.mpr fun g hg => by simpa using O.none pr hr em g hg]
    rfl
  | some g =>
    obtain ⟨⟨g', h1, h2⟩, h3, _⟩ := O.seat pr hr em
    exact List.any_eq_true.mpr ⟨g', h1, decide_eq_true (by rw [h2]; exact h3)⟩
/-- the most that can be seated -/
theorem Okay.most (O : Okay cpus ks line) (pr : rows.Perm (rowsM (ml ks line) [[]])) : (∃ g ∈ rows, g.length = (mostM (mayOf ks line) 8 (tasksOf line) []).1) ∧ ∀ g ∈ rows, g.length ≤ (mostM (mayOf ks line) 8 (tasksOf line) []).1 := by
  obtain ⟨S, _, ff, len, sh, all, nd, own, _⟩ := most_ok (mask := mayOf ks line) (n := 8) O.gnd (Nat.le_trans O.u6 (by decide)) (tasksOf line) [] (fun _ => False) (fits0 _) (by simpa [tasksOf] using O.fair.tasks) fun c hc => hc.elim
  rw [List.length_nil, Nat.zero_add] at len
  have own' : ∀ t ∈ (mostM (mayOf ks line) 8 (tasksOf line) []).2.map (·.2), t ∈ line.map (·.1) := fun t ht => by simpa [tasksOf] using own t ht
  refine ⟨?_, fun g hg => ?_⟩
  · obtain ⟨g, h1, h2⟩ := O.row pr ff nd own'
    exact ⟨g, h1, by rw [h2.length_eq, len]⟩
  · obtain ⟨fg, gT, ow⟩ := O.isRow pr hg
    rw [← len]
    exact bound ff fg gT sh fun p hp => all p.2 (ow p.2 (List.mem_map.mpr ⟨p, hp, rfl⟩))
end
end Wk
set_option maxHeartbeats 4000000
/-! Hosts and lines as data; the calls that asked makes. -/
namespace Wk
open PySem PySem.Spec PyProof.Rows L2 Km PySem.Nt
def hL (cpus : List Str) (ks : List (Str × List Str)) : PyData := .list [.list (cpus.map .str), .list (ks.map fun e => .list [.str e.1, .list (e.2.map .str)])]
def lL (line : List (Str × Str)) : PyData := .list (line.map fun e => .list [.str e.1, .str e.2])
def lD (line : List (Str × Str)) : PyData := .tuple (line.map prD)
theorem flat_str (n : Nat) (z : Str) : flatN n (.str z) = true := by cases n <;> rfl
theorem flat_t (n : Nat) (ds : List PyData) (h : ds.length ≤ 100000) (h2 : ∀ d ∈ ds, flatN n d = true) : flatN (n + 1) (.tuple ds) = true := by
  show (decide (ds.length ≤ 100000) && ds.all (flatN n)) = true
  rw [decide_eq_true h, List.all_eq_true.mpr h2]
  rfl
theorem flat_l (n : Nat) (ds : List PyData) (h : ds.length ≤ 100000) (h2 : ∀ d ∈ ds, flatN n d = true) : flatN (n + 1) (.list ds) = true := by
  show (decide (ds.length ≤ 100000) && ds.all (flatN n)) = true
  rw [decide_eq_true h, List.all_eq_true.mpr h2]
  rfl
theorem flat_tS (n : Nat) {xs : List Str} (h : xs.length ≤ 100000) : flatN (n + 1) (.tuple (xs.map .str)) = true := flat_t n _ (by rw [List.length_map]; exact h) fun d hd => by
  obtain ⟨z, _, rfl⟩ := List.mem_map.mp hd
  exact flat_str n z
theorem flat_lS (n : Nat) {xs : List Str} (h : xs.length ≤ 100000) : flatN (n + 1) (.list (xs.map .str)) = true := flat_l n _ (by rw [List.length_map]; exact h) fun d hd => by
  obtain ⟨z, _, rfl⟩ := List.mem_map.mp hd
  exact flat_str n z
theorem two_all {p : PyData → Prop} {a b : PyData} (h1 : p a) (h2 : p b) : ∀ d ∈ [a, b], p d := fun d hd => by
  rcases List.mem_cons.mp hd with rfl | hd
  · exact h1
  · rw [List.mem_singleton] at hd
    rw [hd]
    exact h2
theorem flat_pr (n : Nat) (p : Str × Str) : flatN (n + 1) (prD p) = true := flat_t n _ (by show 2 ≤ 100000; decide) (two_all (flat_str n _) (flat_str n _))
theorem flat_lD (n : Nat) {g : List (Str × Str)} (h : g.length ≤ 100000) : flatN (n + 2) (.tuple (g.map prD)) = true := flat_t (n + 1) _ (by rw [List.length_map]; exact h) fun d hd => by
  obtain ⟨z, _, rfl⟩ := List.mem_map.mp hd
  exact flat_pr n z
theorem flat_lL (n : Nat) {g : List (Str × Str)} (h : g.length ≤ 100000) : flatN (n + 2) (lL g) = true := flat_l (n + 1) _ (by rw [List.length_map]; exact h) fun d hd => by
  obtain ⟨z, _, rfl⟩ := List.mem_map.mp hd
  exact flat_l n _ (by show 2 ≤ 100000; decide) (two_all (flat_str n _) (flat_str n _))
section
variable {cpus : List Str} {ks : List (Str × List Str)} {line : List (Str × Str)}
theorem flat_kt (n : Nat) (h : ks.length ≤ 6) (h2 : ∀ e ∈ ks, e.2.length ≤ 6) : flatN (n + 3) (.tuple ((kindsT ks).map rowD)) = true := flat_t (n + 2) _ (by unfold kindsT; rw [List.length_map, List.length_map]; omega) fun d hd => by
  obtain ⟨z, hz, rfl⟩ := List.mem_map.mp hd
  obtain ⟨e, he, rfl⟩ := List.mem_map.mp hz
  exact flat_t (n + 1) _ (by show 2 ≤ 100000; decide) (two_all (flat_str _ _) (flat_tS n (by have := h2 e he; omega)))
theorem flat_kl (n : Nat) (h : ks.length ≤ 6) (h2 : ∀ e ∈ ks, e.2.length ≤ 6) : flatN (n + 3) (.list (ks.map fun e => .list [.str e.1, .list (e.2.map .str)])) = true := flat_l (n + 2) _ (by rw [List.length_map]; omega) fun d hd => by
  obtain ⟨e, he, rfl⟩ := List.mem_map.mp hd
  exact flat_l (n + 1) _ (by show 2 ≤ 100000; decide) (two_all (flat_str _ _) (flat_lS n (by have := h2 e he; omega)))
theorem flat_host (n : Nat) (O : Okay cpus ks line) : flatN (n + 4) (hostD cpus ks) = true := flat_t (n + 3) _ (by show 2 ≤ 100000; decide) (two_all (flat_tS _ (by have := O.u6; omega)) (flat_kt n O.ks6 O.k6))
theorem flat_hL (n : Nat) (O : Okay cpus ks line) : flatN (n + 4) (hL cpus ks) = true := flat_l (n + 3) _ (by show 2 ≤ 100000; decide) (two_all (flat_lS _ (by have := O.u6; omega)) (flat_kl n O.ks6 O.k6))
theorem lists_str (n : Nat) (z : Str) : listsN n (.str z) = .str z := by cases n <;> rfl
theorem lists_t (n : Nat) (ds : List PyData) : listsN (n + 1) (.tuple ds) = .list (ds.map (listsN n)) := rfl
theorem lists_tS (n : Nat) (xs : List Str) : listsN (n + 1) (.tuple (xs.map .str)) = .list (xs.map .str) := by
  rw [lists_t, List.map_map]
  congr 1
  exact List.map_congr_left fun z _ => lists_str n z
theorem lists_line (n : Nat) : listsN (n + 2) (lD line) = lL line := by
  unfold lD lL
  rw [lists_t, List.map_map]
  congr 1
  refine List.map_congr_left fun e _ => ?_
  show listsN (n + 1) (.tuple [.str e.1, .str e.2]) = _
  rw [lists_t]
  simp only [List.map_cons, List.map_nil, lists_str]
theorem lists_host (n : Nat) : listsN (n + 4) (hostD cpus ks) = hL cpus ks := by
  unfold hostD hL
  rw [lists_t]
  simp only [List.map_cons, List.map_nil]
  rw [lists_tS, lists_t]
  congr 3
  unfold kindsT
  rw [List.map_map, List.map_map]
  congr 1
  refine List.map_congr_left fun e _ => ?_
  show listsN (n + 2) (.tuple [.str e.1, .tuple (e.2.map .str)]) = _
  rw [lists_t]
  simp only [List.map_cons, List.map_nil, lists_str, lists_tS]
def softD (cpus : List Str) (ks : List (Str × List Str)) (line : List (Str × Str)) : PyData := .list [hL cpus ks, lL line]
theorem lists_soft : listsN 5 (.list [hostD cpus ks, lD line]) = softD cpus ks line := by
  show PyData.list ([hostD cpus ks, lD line].map (listsN 4)) = _
  simp only [List.map_cons, List.map_nil]
  rw [lists_host 0, lists_line 2]
  rfl
theorem flat_both (O : Okay cpus ks line) : flatN 5 (.list [hostD cpus ks, lD line]) = true := flat_l 4 _ (by show 2 ≤ 100000; decide) (two_all (flat_host 0 O) (flat_lD 2 (by have := O.l5; omega)))
theorem flat_soft (O : Okay cpus ks line) : flatN 5 (softD cpus ks line) = true := flat_l 4 _ (by show 2 ≤ 100000; decide) (two_all (flat_hL 0 O) (flat_lL 2 (by have := O.l5; omega)))
theorem tup_str (n : Nat) (z : Str) : tupN n (.str z) = .str z := by cases n <;> rfl
theorem tup_strs (n : Nat) (xs : List Str) : (xs.map PyData.str).map (tupN n) = xs.map .str := by
  rw [List.map_map]
  exact List.map_congr_left fun z _ => tup_str n z
theorem book_host (O : Okay cpus ks line) : IsBook (hostD cpus ks) ks := ⟨_, _, rfl, flat_kt 0 O.ks6 O.k6, by
  show PyData.tuple (((kindsT ks).map rowD).map (tupN 2)) = _
  rw [List.map_map]
  congr 1
  refine List.map_congr_left fun z hz => ?_
  obtain ⟨e, he, rfl⟩ := List.mem_map.mp hz
  show PyData.tuple [tupN 1 (.str e.1), .tuple ((e.2.map PyData.str).map (tupN 0))] = _
  rw [tup_str, tup_strs]
  rfl⟩
theorem book_soft (O : Okay cpus ks line) : IsBook (hL cpus ks) ks := ⟨_, _, rfl, flat_kl 0 O.ks6 O.k6, by
  show PyData.tuple ((ks.map fun e => PyData.list [.str e.1, .list (e.2.map .str)]).map (tupN 2)) = _
  unfold kindsT
  rw [List.map_map, List.map_map]
  congr 1
  refine List.map_congr_left fun e _ => ?_
  show PyData.tuple [tupN 1 (.str e.1), .tuple ((e.2.map PyData.str).map (tupN 0))] = _
  rw [tup_str, tup_strs]
  rfl⟩
theorem line_host : IsLine (lD line) line := ⟨line.map fun e => (prD e, e), by
  unfold lD
  rw [List.map_map]
  rfl, by rw [List.map_map]; exact (List.map_id' line).symm, fun r hr => by
  obtain ⟨e, _, rfl⟩ := List.mem_map.mp hr
  rfl⟩
theorem line_soft : IsLine (lL line) line := ⟨line.map fun e => (.list [.str e.1, .str e.2], e), by
  unfold lL
  rw [List.map_map]
  rfl, by rw [List.map_map]; exact (List.map_id' line).symm, fun r hr => by
  obtain ⟨e, _, rfl⟩ := List.mem_map.mp hr
  rfl⟩
end
section
variable {X : Cx} {e a b c : Expr} {es : List Expr} {σ : L2.St} {G H : Hp} {d bd ld sd : PyData} {ds : List PyData} {pos p : Pos} {C : Addr} {k : Nat} {ks : List (Str × List Str)} {line : List (Str × Str)} {U r : List Str}
theorem no_missing (h : ∀ x ∈ r, x ∈ line.map (·.1)) : missing line r = none := by
  unfold missing
  exact List.find?_eq_none.mpr fun x hx => by
    rw [decide_eq_true (show x ∈ tasksOf line from h x hx)]
    decide
theorem passE {X : Cx} : Passes (L2.CX X.prog X.w) X eN := passes_call tk0 fun _ _ _ _ h => h
theorem ed_can (Cn : CalX X (L2.CX X.prog X.w) "can_seat" ["book", "ready", "some"] k (SpCan C)) (hr : Room k X.A) (fair : Fair ks line) (as : Asks ks line U r) (ib : IsBook bd ks) (il : IsLine ld line) (hs : seqOf sd = some (r.map .str)) (h1 : ED X a σ G bd) (h2 : ED X b σ G ld) (h3 : ED X c σ G sd) (hg : Gl X "can_seat" := by rfl)
    (he : starEach [a, b, c] X.env = (false, eval a X.env) :: starEach [b, c] X.env := by rfl) (he2 : starEach [b, c] X.env = (false, eval b X.env) :: starEach [c] X.env := by rfl) (he3 : starEach [c] X.env = (false, eval c X.env) :: starEach [] X.env := by rfl) (hpl : (backTo pos (starEach [b, c] X.env)).any (·.1) = false := by rfl) :
    ED X (.Call (.Name "can_seat" p) [a, b, c] [] pos) σ G (.bool (matchM (mayOf ks line) 8 r []).isSome) := fun H s Q q =>
  wcall (E := eN) Cn hr passE (w_eds (eds_cons h1 (eds_cons h2 (eds_cons h3 eds_nil he3) he2) he) s fun vs G2 H2 y ps => by
    obtain ⟨w1, w2, w3, rfl, p1, p2, p3⟩ := three ps
    exact ⟨G2, w1, w2, w3, ks, line, r, rfl, y.gh, ⟨⟨_, p1, ib⟩, ⟨_, p2, il⟩, ⟨_, p3, hs⟩, fair, as.sz⟩, (fun n h => by rw [no_missing as.own] at h; cases h), fun _ => ⟨U, as, RD.ext q y⟩⟩) hg (by decide) he hpl
theorem ed_seating (Cn : CalX X (L2.CX X.prog X.w) "a_seating" ["book", "ready", "some"] k (SpSeating C)) (hr : Room k X.A) (fair : Fair ks line) (as : Asks ks line U r) (ib : IsBook bd ks) (il : IsLine ld line) (hs : seqOf sd = some (r.map .str)) (h1 : ED X a σ G bd) (h2 : ED X b σ G ld) (h3 : ED X c σ G sd) (hg : Gl X "a_seating" := by rfl)
    (he : starEach [a, b, c] X.env = (false, eval a X.env) :: starEach [b, c] X.env := by rfl) (he2 : starEach [b, c] X.env = (false, eval b X.env) :: starEach [c] X.env := by rfl) (he3 : starEach [c] X.env = (false, eval c X.env) :: starEach [] X.env := by rfl) (hpl : (backTo pos (starEach [b, c] X.env)).any (·.1) = false := by rfl) :
    ED X (.Call (.Name "a_seating" p) [a, b, c] [] pos) σ G (seatsD (matchM (mayOf ks line) 8 r [])) := fun H s Q q =>
  wcall (E := eN) Cn hr passE (w_eds (eds_cons h1 (eds_cons h2 (eds_cons h3 eds_nil he3) he2) he) s fun vs G2 H2 y ps => by
    obtain ⟨w1, w2, w3, rfl, p1, p2, p3⟩ := three ps
    exact ⟨G2, w1, w2, w3, ks, line, r, rfl, y.gh, ⟨⟨_, p1, ib⟩, ⟨_, p2, il⟩, ⟨_, p3, hs⟩, fair, as.sz⟩, (fun n h => by rw [no_missing as.own] at h; cases h), fun _ => ⟨U, as, RD.ext q y⟩⟩) hg (by decide) he hpl
theorem ed_of {prs : List (Str × Str)} (Cn : CalX X (L2.CX X.prog X.w) "is_seating_of" ["book", "ready", "some", "thing"] k (SpSeatingOf C)) (hr : Room k X.A) (fair : Fair ks line) (as : Asks ks line U r) (ib : IsBook bd ks) (il : IsLine ld line) (hs : seqOf sd = some (r.map .str)) (st : Seats ks line prs) (hx : r = sSort (prs.map (·.2))) (h1 : ED X a σ G bd) (h2 : ED X b σ G ld) (h3 : ED X c σ G sd) (h4 : ED X e σ G (.tuple (prs.map prD))) (hg : Gl X "is_seating_of" := by rfl)
    (he : starEach [a, b, c, e] X.env = (false, eval a X.env) :: starEach [b, c, e] X.env := by rfl) (he2 : starEach [b, c, e] X.env = (false, eval b X.env) :: starEach [c, e] X.env := by rfl) (he3 : starEach [c, e] X.env = (false, eval c X.env) :: starEach [e] X.env := by rfl) (he4 : starEach [e] X.env = (false, eval e X.env) :: starEach [] X.env := by rfl) (hpl : (backTo pos (starEach [b, c, e] X.env)).any (·.1) = false := by rfl) :
    ED X (.Call (.Name "is_seating_of" p) [a, b, c, e] [] pos) σ G (.bool true) := fun H s Q q =>
  wcall (E := eN) Cn hr passE (w_eds (eds_cons h1 (eds_cons h2 (eds_cons h3 (eds_cons h4 eds_nil he4) he3) he2) he) s fun vs G2 H2 y ps => by
    obtain ⟨w1, w2, w3, w4, rfl, p1, p2, p3, p4⟩ := four ps
    exact ⟨G2, w1, w2, w3, w4, ks, line, r, prs, rfl, y.gh, ⟨⟨_, p1, ib⟩, ⟨_, p2, il⟩, ⟨_, p3, hs⟩, fair, as.sz⟩, p4, no_missing as.own, st, hx, RD.ext q y⟩) hg (by decide) he hpl
theorem ed_most (Cn : CalX X CX0 "most_seated" ["book", "ready"] k SpMost) (hr : Room k X.A) (fair : Fair ks line) (gr : Ground ks line U) (u8 : U.length ≤ 8) (ib : IsBook bd ks) (il : IsLine ld line) (h1 : ED X a σ G bd) (h2 : ED X b σ G ld) (hg : Gl X "most_seated" := by rfl)
    (he : starEach [a, b] X.env = (false, eval a X.env) :: starEach [b] X.env := by rfl) (he2 : starEach [b] X.env = (false, eval b X.env) :: starEach [] X.env := by rfl) (hpl : (backTo pos (starEach [b] X.env)).any (·.1) = false := by rfl) :
    ED X (.Call (.Name "most_seated" p) [a, b] [] pos) σ G (.int ((mostM (mayOf ks line) 8 (tasksOf line) []).1 : Nat)) := fun H s Q q =>
  wcall (E := eN) Cn hr pasN (w_eds (eds_cons h1 (eds_cons h2 eds_nil he2) he) s fun vs G2 H2 y ps => by
    obtain ⟨w1, w2, rfl, p1, p2⟩ := ps.two
    exact ⟨G2, w1, w2, bd, ld, ks, line, U, rfl, y.gh, p1, p2, ib, il, fair, gr, u8, RD.ext q y⟩) hg (by decide) he hpl
/-- [..] * k -/
theorem ed_rep {n : Nat} (hn : n ≤ 100) (hz : ds.length ≤ 100) (ha : ED X a σ G (.list ds)) (hb : ED X b σ G (.int (n : Nat))) : ED X (.BinOp a .Mult b pos) σ G (.list (List.replicate n ds).flatten) :=
  ed_op op_rep (fun G H x y Q s p1 p2 q => by
    cases p1 with
    | @lst r xs _ h1 h2 =>
      cases p2
      have hm : xs.length * n ≤ 10000 := by rw [h2.length]; exact Nat.mul_le_mul hz hn
      refine ⟨r, n, xs, rfl, rfl, s _ _ h1, by omega, by omega, by simp only [Int.toNat_natCast]; exact Nat.le_trans hm (by decide), fun l hl => ?_⟩
      have hD : ∀ m : Nat, DqAll (upd G l (.lst (List.replicate ((n : Int).toNat) xs).flatten)) (List.replicate m xs).flatten (List.replicate m ds).flatten := fun m => by
        induction m with
        | zero => exact .nil
        | succ m ih =>
          rw [List.replicate_succ, List.replicate_succ, List.flatten_cons, List.flatten_cons]
          exact DqAll.append ih (h2.up (Same.laid (s.free hl)))
      exact q _ _ _ (Ext.new s hl) (.lst upd_same (hD n))) ha hb
end
end Wk
set_option maxHeartbeats 4000000
/-! asked. -/
namespace Wk
open PySem PySem.Spec PyProof.Rows L2 Km PySem.Nt
section
variable {P : Program} {w : World} {K : PySem.W.Frag} {mg : Str → Option Value} {base : Heap} {C fI : Addr}
theorem blk_in (N : List Str) (sc scope : Scope) (own : List (Str × Nat)) (h : (scope.kind = .function) ∧ (∀ y ∈ scope.names, scope.names.lookup y.1 = some y.2) ∧ (∀ p ∈ own, N[p.2]? = some p.1) ∧ (∀ y ∈ scope.names, y.2 ≠ .free) ∧
    (∀ y ∈ scope.names, y.2 = .local ∨ y.2 = .cell → y.1 ∈ own.map (·.1) ∨ y.1 ∉ N)) : BlkOk N sc scope own := ⟨h.1, h.2.1, h.2.2.1, fun y hy z => absurd z (h.2.2.2.1 y hy), h.2.2.2.2⟩
theorem rows_len : ∀ (l : List (Str × List Str)) (found : List (List (Str × Str))), (∀ tm ∈ l, tm.2.length ≤ 6) → (rowsM l found).length ≤ 7 ^ l.length * found.length
  | [], found, _ => by simp [rowsM]
  | (own, m) :: l, found, h => by
    rw [rows_step]
    have h1 := rows_len l (found.flatMap (stepM own m)) fun tm ht => h tm (List.mem_cons_of_mem _ ht)
    have h2 := flat_len (own := own) (h (own, m) List.mem_cons_self) found
    have h3 : 7 ^ l.length * (found.flatMap (stepM own m)).length ≤ 7 ^ l.length * (7 * found.length) := Nat.mul_le_mul (Nat.le_refl _) h2
    have e : 7 ^ (l.length + 1) * found.length = 7 ^ l.length * (7 * found.length) := by rw [Nat.pow_succ, Nat.mul_assoc]
    rw [List.length_cons, e]
    omega
section
variable {cpus : List Str} {ks : List (Str × List Str)} {line : List (Str × Str)} {rows : List (List (Str × Str))} {r : List Str} {g : List (Str × Str)}
theorem Okay.len (O : Okay cpus ks line) (pr : rows.Perm (rowsM (ml ks line) [[]])) : rows.length ≤ 16807 := by
  have h := rows_len (ml ks line) [[]] fun tm ht => by
    obtain ⟨e, he, rfl⟩ := List.mem_map.mp ht
    exact O.m6 e he
  rw [← pr.length_eq] at h
  have l : (ml ks line).length ≤ 5 := by unfold ml; rw [List.length_map]; exact O.l5
  have h2 : 7 ^ (ml ks line).length ≤ 7 ^ 5 := Nat.pow_le_pow_right (by decide) l
  simp only [List.length_cons, List.length_nil] at h
  omega
theorem Okay.row5 (O : Okay cpus ks line) (pr : rows.Perm (rowsM (ml ks line) [[]])) (hg : g ∈ rows) : g.length ≤ 5 := by
  obtain ⟨_, gT, own⟩ := O.isRow pr hg
  have h := nodup_len gT own
  rw [List.length_map, List.length_map] at h
  have := O.l5
  omega
theorem Okay.tok (O : Okay cpus ks line) {t : Str} (h : t ∈ line.map (·.1)) : sOk t := by
  obtain ⟨e, he, rfl⟩ := List.mem_map.mp h
  exact (O.nmt e he).ok
theorem Okay.prok (O : Okay cpus ks line) (fg : Fits (mayOf ks line) g) (own : ∀ t ∈ g.map (·.2), t ∈ line.map (·.1)) : PrOk (pSort g) := fun p hp => by
  have hg := (pSort_perm g).mem_iff.mp hp
  exact ⟨(O.nmc _ (O.gnd _ _ (fg.may p hg))).ok, O.tok (own p.2 (List.mem_map.mpr ⟨p, hg, rfl⟩))⟩
end
theorem non_seats (m : Option (List (Str × Str))) : (!isNon (seatsD m)) = m.isSome := by cases m <;> rfl
theorem flat_seats {m : Option (List (Str × Str))} (h : ∀ g, m = some g → g.length ≤ 100000) : flatN 3 (seatsD m) = true := by
  cases m with
  | none => rfl
  | some g => exact flat_lD 1 (by rw [(pSort_perm g).length_eq]; exact h g rfl)
/-- what asked calls -/
structure Doors (P : Program) (w : World) (K : PySem.W.Frag) (mg : Str → Option Value) (base : Heap) (C : Addr) : Prop where
  can : Cal P w K mg base (L2.CX P w) "can_seat" ["book", "ready", "some"] 11 (SpCan C)
  sea : Cal P w K mg base (L2.CX P w) "a_seating" ["book", "ready", "some"] 11 (SpSeating C)
  isof : Cal P w K mg base (L2.CX P w) "is_seating_of" ["book", "ready", "some", "thing"] 11 (SpSeatingOf C)
  iss : CalN P w K mg base "is_seating" ["book", "ready", "thing"] 11 (PureSp RSeat)
  most : CalN P w K mg base "most_seated" ["book", "ready"] 11 SpMost
  same : ∀ n : Nat, n ≤ 10 → CalN P w K mg base "_law_same" ["_law_got", "_law_goal"] 11 (SpSame n)
  lists : ∀ n : Nat, n ≤ 10 → CalN P w K mg base "_law_lists" ["_law_thing_so"] 11 (SpLists n)
  all : CalN P w K mg base "_law_all" ["_law_host_here", "_law_line_so"] 11 SpAll
  lots : CalN P w K mg base "_law_lots" ["_law_tags_here"] 11 SpLots
def SpAsked : Sp := fun vs H Q _ => ∃ (G : Hp) (v1 v2 : V) (cpus : List Str) (ks : List (Str × List Str)) (line : List (Str × Str)), vs = [v1, v2] ∧ Same G H ∧ HostF cpus ks G v1 ∧ Dq G v2 (lD line) ∧ Okay cpus ks line ∧ RD G H (.bool true) Q
theorem ok_asked {f : Addr} {fd : FuncData} (B : Bi mg) (F : Fun K "_law_asked" "_law_asked" s_law_asked f fd) (D : Doors P w K mg base C) : FnOk P w K mg base CX0 12 f fd ["_law_host_here", "_law_line_so"] SpAsked := by
  refine def_ok F c_law_asked (fun vs H Q E h => by obtain ⟨G, v1, v2, cpus, ks, line, rfl, _⟩ := h; rfl) fun cdv A outer s H E vs Q hr h => ?_
  obtain ⟨G, v1, v2, cpus, ks, line, rfl, sG, hh, hl, O, q⟩ := h
  have hd := hh.dq
  have ib := book_host O
  have ibS := book_soft O
  have il := line_host (line := line)
  have ilS := line_soft (line := line)
  have gr : Ground ks line cpus := ⟨O.gnd, by have := O.u6; omega⟩
  have u8 : cpus.length ≤ 8 := by have := O.u6; omega
  refine b_cons (s_par 2 3 rfl c_law_asked.nd (by decide) (w_ed (d := softD cpus ks line) (ed_call (E := eN) (D.lists 5 (by decide)) hr pasN (eds_cons (ed_lst (eds_cons (ed_var 0 rfl hd) (eds_cons (ed_var 1 rfl hl) eds_nil)) (by show 2 ≤ 100000; decide)) eds_nil) ⟨_, rfl, flat_both O, lists_soft.symm⟩) sG fun sv G1 H1 y1 hsv => ?_))
  refine wcall (E := eN) D.all hr pasN (wa (pa_cons pe pa) (w_var 0 rfl (wa (pa_cons pe pa_nil) (w_var 1 rfl ?_))))
  refine ⟨G1, v1, v2, cpus, ks, line, rfl, y1.gh, hh.up y1.gg, hl.up y1.gg, O.fair, O.l5, O.m6, fun rws pr rv G2 H2 y2 hrv => ?_⟩
  have x2 := y1.trans y2
  have hz := O.len pr
  have hsv2 := hsv.up y2.gg
  have setk : ∀ g ∈ rws, ∀ y ∈ sSort ((pSort g).map (·.2)), sOk y := fun g hg y hy => by
    obtain ⟨fg, gT, own⟩ := O.isRow pr hg
    have h1 := (sSort_perm _).mem_iff.mp hy
    obtain ⟨p, hp, rfl⟩ := List.mem_map.mp h1
    exact (O.prok fg own p hp).2
  have sh1 : SeqAt.shaped (.list (rws.map fun g => tS (sSort ((pSort g).map (·.2))))) = true := shaped_of (by simp only [PyData.canLay0]; exact lay_tstrs rws _ setk) (by have := dep_tstrs rws fun g => sSort ((pSort g).map (·.2)); simp only [PyData.depth]; unfold tS; omega)
  have sh2 : SeqAt.shaped (.list (rws.map fun g => rD (pSort g))) = true := shaped_of (by
    simp only [PyData.canLay0]
    exact lay_tprs rws _ fun g hg => by
      obtain ⟨fg, gT, own⟩ := O.isRow pr hg
      exact O.prok fg own) (by have := dep_tprs rws fun g => pSort g; simp only [PyData.depth]; unfold rD; omega)
  refine b_cons (s_lc1 4 11 rws (fun g => rD (pSort g)) (fun g => tS (sSort ((pSort g).map (·.2)))) (by omega) rfl c_law_asked.nd (blk_ok n_law_asked (defScope s_law_asked) _ _ (by decide +kernel)) (ei_seq rfl (ed_var 3 rfl hrv)) y2.gh ?_ fun tv G3 H3 y3 htv => ?_)
  · intro g hg G3 s3 u hu s0 H0 C cl fp
    have g5 := O.row5 pr hg
    refine ed_tuple (d := .list ((sSort ((pSort g).map (·.2))).map .str)) rfl B.tuple ?_
    refine ed_sortS (d := .list (((pSort g).map (·.2)).map .str)) hr.units rfl (by rw [List.length_map, (pSort_perm g).length_eq]; omega) B.sorted ?_
    refine (ED.to (ed_lc1 10 (pSort g) prD (fun p => .str p.2) (by rw [(pSort_perm g).length_eq]; omega) rfl c_law_asked.nd (blk_in n_law_asked _ _ _ (by decide +kernel)) (ei_seq rfl (ed_var 11 rfl hu)) (fun p hp G10 s10 u hu s0 H0 C cl fp => ed_ix (i := 1) (ds := [.str p.1, .str p.2]) rfl rfl (ed_var 10 rfl hu) ed_int)) (by rw [List.map_map]; rfl))
  have x3 := x2.trans y3
  obtain ⟨⟨gm, hgm, egm⟩, hmax⟩ := O.most pr
  generalize hmm : (mostM (mayOf ks line) 8 (tasksOf line) []).1 = mm at egm hmax
  refine b_cons (s_set 5 c_law_asked.nd (d := .int (mm : Nat)) (ed_max (ns := rws.map fun g => ((g.length : Nat) : Int)) (List.mem_map.mpr ⟨gm, hgm, by rw [egm]⟩) (fun y hy => by
    obtain ⟨g, hg, rfl⟩ := List.mem_map.mp hy
    have := hmax g hg
    omega)  rfl B.max ?_) y3.gh fun mv G4 H4 y4 hmv => ?_)
  · exact (ED.to (ed_lc1 11 rws (fun g => tS (sSort ((pSort g).map (·.2)))) (fun g => .int (g.length : Nat)) (by omega) rfl c_law_asked.nd (blk_ok n_law_asked (defScope s_law_asked) _ _ (by decide +kernel)) (ei_seq rfl (ed_var 4 rfl htv)) (fun g hg G10 s10 u hu s0 H0 C cl fp => ED.to (ed_len (ds := (sSort ((pSort g).map (·.2))).map .str) rfl B.len (ed_var 11 rfl hu)) (by rw [List.length_map, (sSort_perm _).length_eq, List.length_map, (pSort_perm g).length_eq]))) (by rw [List.map_map]; rfl))
  cases hmv
  have x4 := x3.trans y4
  refine b_cons (s_forL PassesOwn.never rfl (wcall (E := eN) D.lots hr pasN ?_))
  refine w_eds (eds_cons (ED.to (ed_lc1 11 line prD (fun e => .str e.1) (by have := O.l5; omega) rfl c_law_asked.nd (blk_ok n_law_asked (defScope s_law_asked) _ _ (by decide +kernel)) (ei_seq (d := lD line) rfl (ed_var 1 rfl (hl.up x4.gg))) (fun e he G10 s10 u hu s0 H0 C cl fp => ed_ix (i := 0) (ds := [.str e.1, .str e.2]) rfl rfl (ed_var 11 rfl hu) ed_int)) (show _ = PyData.list ((tasksOf line).map .str) by unfold tasksOf; rw [List.map_map]; rfl)) eds_nil) y4.gh fun vs G5 H5 y5 ps => ?_
  obtain ⟨u5, rfl, hu5⟩ := ps.one
  refine ⟨G5, u5, tasksOf line, rfl, y5.gh, hu5, by unfold tasksOf; rw [List.length_map]; exact O.l5, fun lts hsub lv G6 H6 y6 hlv => ?_⟩
  have x6 := x4.trans (y5.trans y6)
  have s46 : Same G4 G6 := y5.gg.trans y6.gg
  cases hlv with
  | @lst ra us _ e1 e2 =>
    refine ⟨ra, us, rfl, y6.gh _ _ e1, for_tail lts tS (fun r G σ σ2 => ∃ v, Dq G v (tS r) ∧ σ2 = σ.set 6 (some v)) (fun i σ' G' H' => (∃ a b c d, σ' = [some v1, some v2, some sv, some rv, some tv, some (.int (mm : Nat)), a, b, c, d, none, none]) ∧ Ext G H G' H') (Gives.lst e1 e2) ⟨⟨none, none, none, none, rfl⟩, x6⟩ (fun i σ' G' H' h => h.2.gh) (fun r hr G3 _ σ' => bnd_name 6 c_law_asked.nd) ?_ ?_⟩
    · rintro i r σ' G' H' G7 H7 σ2 hi ⟨⟨a, b, c, d, rfl⟩, x'⟩ sa y7 ⟨bv, hbv, rfl⟩
      have sub := hsub r (List.mem_of_getElem? hi)
      obtain ⟨rn, ro, r5⟩ := O.lots sub
      have as : Asks ks line cpus r := ⟨gr, u8, rn, ro, by omega⟩
      have xx := x'.trans y7
      have s27 : Same G2 G7 := y3.gg.trans (y4.gg.trans (s46.trans (sa.trans y7.gg)))
      have hd7 := hd.up xx.gg
      have hl7 := hl.up xx.gg
      have hsv7 := hsv2.up s27
      have hrv7 := hrv.up s27
      have htv7 := htv.up (y4.gg.trans (s46.trans (sa.trans y7.gg)))
      have shr : SeqAt.shaped (tS r) = true := shaped_strs fun x hx => O.tok (ro x hx)
      generalize hm : matchM (mayOf ks line) 8 r [] = m
      have fs : flatN 3 (seatsD m) = true := flat_seats fun g e => by
        rw [e] at hm
        obtain ⟨_, _, st⟩ := O.seat pr sub hm
        have := st.sz
        rw [(pSort_perm g).length_eq] at this
        omega
      refine b_cons (s_par 7 8 rfl c_law_asked.nd (by decide) (w_ed (d := .bool m.isSome) (ED.to (ed_inD (hu65 hr) shr sh1 (ed_var 6 rfl hbv) (ed_var 4 rfl htv7)) ?_) y7.gh fun kv G8 H8 y8 hkv => ?_))
      · rw [List.any_map, ← hm, ← O.there pr sub]
        congr 2
        funext g
        exact eqv_tstrs _ _
      refine w_ed (d := seatsD m) (ED.to (ed_seating D.sea hr O.fair as ib il rfl (ed_var 0 rfl (hd7.up y8.gg)) (ed_var 1 rfl (hl7.up y8.gg)) (ed_var 6 rfl (hbv.up y8.gg))) (by rw [hm])) y8.gh fun pv G9 H9 y9 hpv => ?_
      have s79 := y8.gg.trans y9.gg
      refine b_cons (s_set 9 c_law_asked.nd (d := .list [.bool m.isSome, .bool m.isSome, .bool m.isSome]) (ed_lst (eds_cons (ED.to (ed_can D.can hr O.fair as ib il rfl (ed_var 0 rfl (hd7.up s79)) (ed_var 1 rfl (hl7.up s79)) (ed_var 6 rfl (hbv.up s79))) (by rw [hm])) (eds_cons (ED.to (ed_can (sd := .list (r.map .str)) D.can hr O.fair as ibS ilS rfl (ed_ix (i := 0) rfl rfl (ed_var 2 rfl (hsv7.up s79)) ed_int) (ed_ix (i := 1) rfl rfl (ed_var 2 rfl (hsv7.up s79)) ed_int) (ed_list rfl B.list (ed_var 6 rfl (hbv.up s79)))) (by rw [hm])) (eds_cons (ED.to (ed_notN (ed_var 8 rfl hpv) ed_non) (by rw [non_seats])) eds_nil))) (by show 3 ≤ 100000; decide)) y9.gh fun gv G10 H10 y10 hgv => ?_)
      have s710 := s79.trans y10.gg
      have hkv10 := hkv.up (y9.gg.trans y10.gg)
      have hpv10 := hpv.up y10.gg
      refine b_cons (s_if (k := false) (EW.t (ew_or (k := false) (k' := false) (et_not (k := true) (et_val (ed_call (E := eN) (D.same 1 (by decide)) hr pasN (eds_cons (ed_var 9 rfl hgv) (eds_cons (ed_rep (n := 3) (ds := [.bool m.isSome]) (by decide) (by show 1 ≤ 100; decide) (ed_lst (eds_cons (ed_var 7 rfl hkv10) eds_nil) (by show 1 ≤ 100000; decide)) (ed_int (i := 3))) eds_nil)) ⟨_, rfl, flat_l 0 _ (by show 3 ≤ 100000; decide) (fun d hd => by
          rcases List.mem_cons.mp hd with rfl | hd
          · rfl
          · exact two_all (p := fun d => flatN 0 d = true) rfl rfl d hd), rfl⟩))) fun _ => ew_or1 (et_not (k := true) (et_val (ed_call (E := eN) (D.same 3 (by decide)) hr pasN (eds_cons (ED.to (ed_seating (sd := .list (r.map .str)) D.sea hr O.fair as ibS ilS rfl (ed_ix (i := 0) rfl rfl (ed_var 2 rfl (hsv7.up s710)) ed_int) (ed_ix (i := 1) rfl rfl (ed_var 2 rfl (hsv7.up s710)) ed_int) (ed_list rfl B.list (ed_var 6 rfl (hbv.up s710)))) (by rw [hm])) (eds_cons (ed_var 8 rfl hpv10) eds_nil)) ⟨_, rfl, fs, rfl⟩))))) y10.gh (fun h => by cases h) fun _ G11 H11 y11 => b_nil ?_)
      have s711 := s710.trans y11.gg
      have x11 := (xx.trans (y8.trans y9)).trans (y10.trans y11)
      refine b_cons (s_if (k := !m.isSome) (et_not (et_val (ed_var 7 rfl (hkv10.up y11.gg)))) y11.gh (fun hk G12 H12 y12 => b_one (ws ps_continue ⟨G12, ⟨⟨_, _, _, _, rfl⟩, x11.trans y12⟩, s711.trans y12.gg⟩)) fun hk G12 H12 y12 => b_nil ?_)
      cases m with
      | none => cases hk
      | some g =>
        obtain ⟨⟨g', hg', eg'⟩, esr, st⟩ := O.seat pr sub hm
        have s712 := s711.trans y12.gg
        have hpv12 : Dq G12 pv (.tuple ((pSort g).map prD)) := hpv10.up (y11.gg.trans y12.gg)
        have pok : PrOk (pSort g) := fun p hp => ⟨(st.nm p hp).1.ok, (st.nm p hp).2.ok⟩
        have x12 := x11.trans y12
        refine b_cons (s_if (k := false) (EW.t (ew_or (k := false) (k' := false) (ET.to (et_niD (hu65 hr) (shaped_prs pok) sh2 (ed_var 8 rfl hpv12) (ed_var 3 rfl (hrv7.up s712))) ?_) fun _ => ew_or1 (ET.to (et_ne (da := tS (sSort ((pSort g).map (·.2)))) hr.units (by rw [esr]; exact shr) shr ?_ (ed_var 6 rfl (hbv.up s712))) ?_))) y12.gh (fun h => by cases h) fun _ G13 H13 y13 => b_nil ?_)
        · rw [List.any_map]
          rw [List.any_eq_true.mpr ⟨g', hg', by
            show PyData.eqv (.tuple ((pSort g').map prD)) (.tuple ((pSort g).map prD)) = true
            rw [eqv_tprs, eg']
            simp⟩]
          rfl
        · have gz := st.sz
          refine ed_tuple (d := .list ((sSort ((pSort g).map (·.2))).map .str)) rfl B.tuple ?_
          refine ed_sortS (d := .list (((pSort g).map (·.2)).map .str)) hr.units rfl (by rw [List.length_map]; omega) B.sorted ?_
          refine ED.to (ed_lc1 11 (pSort g) prD (fun p => .str p.2) (by omega) rfl c_law_asked.nd (blk_ok n_law_asked (defScope s_law_asked) _ _ (by decide +kernel)) (ei_seq rfl (ed_var 8 rfl hpv12)) (fun p hp G10 s10 u hu s0 H0 C cl fp => ed_ix (i := 1) (ds := [.str p.1, .str p.2]) rfl rfl (ed_var 11 rfl hu) ed_int)) (by rw [List.map_map]; rfl)
        · have e := eqv_tstrs (sSort ((pSort g).map (·.2))) r
          show (!PyData.eqv (.tuple ((sSort ((pSort g).map (·.2))).map .str)) (.tuple (r.map .str))) = false
          rw [e, decide_eq_true esr]
          rfl
        have s713 := s712.trans y13.gg
        have hpv13 := hpv12.up y13.gg
        refine b_one (s_if (k := false) (EW.t (ew_or (k := false) (k' := false) (et_not (k := true) (et_val (ed_call (E := eN) D.iss hr pasN (eds_cons (ed_var 0 rfl (hd7.up s713)) (eds_cons (ed_var 1 rfl (hl7.up s713)) (eds_cons (ed_var 8 rfl hpv13) eds_nil))) ⟨_, _, ks, line, pSort g, rfl, ib, il, O.fair, st, rfl⟩))) fun _ => ew_or1 (et_not (k := true) (et_val (ed_of D.isof hr O.fair as ib il rfl st esr.symm (ed_var 0 rfl (hd7.up s713)) (ed_var 1 rfl (hl7.up s713)) (ed_var 6 rfl (hbv.up s713)) (ed_var 8 rfl hpv13)))))) y13.gh (fun h => by cases h) fun _ G14 H14 y14 => b_nil ⟨G14, ⟨⟨_, _, _, _, rfl⟩, (x12.trans y13).trans y14⟩, s713.trans y14.gg⟩)
    · rintro σ' G' H' ⟨⟨a, b, c, d, rfl⟩, x'⟩ sa
      have s2' : Same G2 G' := y3.gg.trans (y4.gg.trans (s46.trans sa))
      have hd7 := hd.up x'.gg
      have hl7 := hl.up x'.gg
      have hsv7 := hsv2.up s2'
      refine b_cons (s_set 9 c_law_asked.nd (d := .list [.int (mm : Nat), .int (mm : Nat), softD cpus ks line]) (ed_lst (eds_cons (ED.to (ed_most D.most hr O.fair gr u8 ib il (ed_var 0 rfl hd7) (ed_var 1 rfl hl7)) (by rw [hmm])) (eds_cons (ED.to (ed_most D.most hr O.fair gr u8 ibS ilS (ed_ix (i := 0) rfl rfl (ed_var 2 rfl hsv7) ed_int) (ed_ix (i := 1) rfl rfl (ed_var 2 rfl hsv7) ed_int)) (by rw [hmm])) (eds_cons (ed_var 2 rfl hsv7) eds_nil))) (by show 3 ≤ 100000; decide)) x'.gh fun gv G8 H8 y8 hgv => ?_)
      have x8 := x'.trans y8
      refine b_one (s_ret (ed_call (E := eN) (D.same 6 (by decide)) hr pasN (eds_cons (ed_var 9 rfl hgv) (eds_cons (ed_lst (eds_cons (ed_var 5 rfl (.int _)) (eds_cons (ed_var 5 rfl (.int _)) (eds_cons (ed_call (E := eN) (D.lists 5 (by decide)) hr pasN (eds_cons (ed_lst (eds_cons (ed_var 0 rfl (hd7.up y8.gg)) (eds_cons (ed_var 1 rfl (hl7.up y8.gg)) eds_nil)) (by show 2 ≤ 100000; decide)) eds_nil) ⟨_, rfl, flat_both O, lists_soft.symm⟩) eds_nil))) (by show 3 ≤ 100000; decide)) eds_nil)) ⟨_, rfl, flat_l 5 _ (by show 3 ≤ 100000; decide) (fun d hd => by
          rcases List.mem_cons.mp hd with rfl | hd
          · rfl
          · exact two_all (p := fun d => flatN 5 d = true) rfl (flat_soft O) d hd), rfl⟩) x8.gh (RD.ext q x8))
end
end Wk
set_option maxHeartbeats 4000000
/-! host. -/
namespace Wk
open PySem PySem.Spec PyProof.Rows L2 Km PySem.Nt
theorem at0 (x : PyData) (xs : List PyData) : atI (x :: xs) 0 = some x := by
  rw [show (0 : Int) = ((0 : Nat) : Int) from rfl, atI_nat (by simp)]
  rfl
theorem asc_lt {a b : List Nat} (h : a < b) : PyProof.Rows.strKind.blt b a = false := by
  cases e : PyProof.Rows.strKind.blt b a with
  | false => rfl
  | true => exact absurd (List.lt_trans h (of_decide_eq_true e)) (List.lt_irrefl _)
theorem row_lt {a b : Str × PyData} (h : a.1.cps.toList < b.1.cps.toList) : PySem.W.dataLt (rowD b) (rowD a) = false := by
  show PyProof.Rows.lexLt PyProof.Rows.itemOrd (.inl 1 :: .inr b.1.cps.toList :: _) (.inl 1 :: .inr a.1.cps.toList :: _) = false
  rw [PyProof.Rows.lex_self]
  exact PyProof.Rows.lex_false.mpr ⟨asc_lt h, .inl (decide_eq_true h)⟩
theorem toks_row {a b : Str × PyData} (h : PySem.W.keyToks (rowD a) = PySem.W.keyToks (rowD b)) : a.1 = b.1 := by
  have h' : (.inl 1 :: .inr a.1.cps.toList :: _ : List (Int ⊕ List Nat)) = .inl 1 :: .inr b.1.cps.toList :: _ := h
  simp only [List.cons.injEq, Sum.inr.injEq, true_and] at h'
  exact PySem.W.str_of_cps h'.1
theorem asc_nd {xs : List Str} (h : Asc xs) : xs.Nodup := h.imp fun {a b} h e => by rw [e] at h; exact List.lt_irrefl _ h
theorem kinds_keys (ks : List (Str × List Str)) : (kindsT ks).map (·.1) = ks.map (·.1) := by
  unfold kindsT
  rw [List.map_map]
  rfl
theorem sort_kinds {ks : List (Str × List Str)} (h : Asc (ks.map (·.1))) : dSort ((kindsT ks).map rowD) = (kindsT ks).map rowD := by
  have h2 : Asc ((kindsT ks).map (·.1)) := by rw [kinds_keys]; exact h
  refine dSort_is (.refl _) ?_ fun a ha b hb e => ?_
  · rw [List.pairwise_map]
    unfold Asc at h2
    rw [List.pairwise_map] at h2
    exact h2.imp fun {a b} h => row_lt h
  · obtain ⟨x, hx, rfl⟩ := List.mem_map.mp ha
    obtain ⟨y, hy, rfl⟩ := List.mem_map.mp hb
    rw [map_inj (·.1) (asc_nd h2) x hx y hy (toks_row e)]
theorem sSort_asc {xs : List Str} (h : Asc xs) : sSort xs = xs := by
  have e := dSort_is (.refl (xs.map PyData.str)) (by
    rw [List.pairwise_map]
    exact h.imp fun {a b} h => show PyProof.Rows.lexLt PyProof.Rows.itemOrd [.inr b.cps.toList] [.inr a.cps.toList] = false from PyProof.Rows.lex_false.mpr ⟨asc_lt h, .inl (decide_eq_true h)⟩) (strs_inj xs)
  rw [dSort_strs] at e
  exact map_str_inj e
theorem alike_kinds (ks : List (Str × List Str)) : PySem.W.AllAlike ((kindsT ks).map rowD) := by
  unfold kindsT
  rw [List.map_map]
  exact PySem.W.AllAlike.of fun a b => by
    have h : ∀ xs ys : List Str, PySem.W.alikeAll (xs.map PyData.str) (ys.map PyData.str) = true := by
      intro xs
      induction xs with
      | nil => intro ys; simp [PySem.W.alikeAll]
      | cons x xs ih => intro ys; cases ys with
        | nil => simp [PySem.W.alikeAll]
        | cons y ys => simp only [List.map_cons, PySem.W.alikeAll, ih ys, PySem.W.alike, Bool.and_self]
    show PySem.W.alike (.tuple [_, .tuple _]) (.tuple [_, .tuple _]) = true
    simp only [PySem.W.alike, PySem.W.alikeAll, h, Bool.and_self]
theorem ok_kinds (ks : List (Str × List Str)) : SrtOk ((kindsT ks).map rowD) := .inl (PySem.W.Sortable.tuples fun b => ⟨_, _, rfl⟩)
section
variable {X : Cx} {e a : Expr} {σ : L2.St} {G H : Hp} {pos apos : Pos}
theorem ed_split {z b : Str} (hb : (b.length == 0) = false) (hz : z.length ≤ 100000) (ha : ED X a σ G (.str z)) (he : ED X e σ G (.str b)) (hs : starEach [e] X.env = [(false, eval e X.env)] := by rfl) (hbase : attributeBase a "split" X.env (eval a X.env) = eval a X.env := by rfl) (hline : (apos.endLine == pos.line) = true := by rfl) :
    ED X (.Call (.Attribute a "split" apos) [e] [] pos) σ G (.list ((Txt.split z b).map .str)) := fun H s Q q =>
  we (pe_split pe pe hs hbase hline) (ha H s _ fun v G2 H2 y h => by
    cases h
    refine ⟨⟨_, rfl⟩, he.up y.gg H2 y.gh _ fun u G3 H3 y3 h3 => ?_⟩
    cases h3
    exact ⟨z, b, rfl, rfl, hb, Nat.le_trans (Nat.add_le_add_right hz 2) (by decide), fun l hl => q _ _ _ ((y.trans y3).trans (Ext.new y3.gh hl)) (.lst upd_same (DqAll.strs _))⟩)
end
section
variable {P : Program} {w : World} {K : PySem.W.Frag} {mg : Str → Option Value} {base : Heap}
structure Flat (z : Str) (cpus : List Str) (ks : List (Str × List Str)) : Prop where
  cut : ∃ p0 ps, Txt.split z " | " = p0 :: ps ∧ Txt.split p0 " " = cpus ∧ ps.map (fun p => Txt.split p " ") = ks.map (fun e => e.1 :: e.2) ∧ p0.length ≤ 1000 ∧ ∀ p ∈ ps, p.length ≤ 1000
  asc : Asc cpus
  asck : Asc (ks.map (·.1))
  ascm : ∀ e ∈ ks, Asc e.2
  sz : z.length ≤ 1000
  szc : cpus.length ≤ 6
  szk : ks.length ≤ 6
  szm : ∀ e ∈ ks, e.2.length ≤ 6
def SpHost : Sp := fun vs H Q _ => ∃ (G : Hp) (z : Str) (cpus : List Str) (ks : List (Str × List Str)), vs = [.str z] ∧ Same G H ∧ Flat z cpus ks ∧ ∀ v G2 H2, Ext G H G2 H2 → HostF cpus ks G2 v → Q v H2
theorem ok_host {f : Addr} {fd : FuncData} (B : Bi mg) (F : Fun K "_law_host" "_law_host" s_law_host f fd) : FnOk P w K mg base CX0 1 f fd ["_law_flat"] SpHost := by
  refine def_ok F c_law_host (fun vs H Q E h => by obtain ⟨G, z, cpus, ks, rfl, _⟩ := h; rfl) fun cdv A outer s H E vs Q hr h => ?_
  obtain ⟨G, z, cpus, ks, rfl, sG, fl, q⟩ := h
  obtain ⟨p0, ps, c1, c2, c3, c4, c5⟩ := fl.cut
  have pl : ps.length = ks.length := by have := congrArg List.length c3; simpa using this
  refine b_cons (s_par 1 2 rfl c_law_host.nd (by decide) (w_ed (d := .list ((p0 :: ps).map .str)) (ED.to (ed_split (b := " | ") (by decide) (by have := fl.sz; omega) (ed_var 0 rfl (.str z)) ed_str) (by rw [c1])) sG fun bv G1 H1 y1 hb => we (pe_lst pa) (wa pa_nil ⟨Nat.zero_le _, fun fa hfa => ?_⟩)))
  have gfa : G1 fa = none := y1.gh.free hfa
  have hHfa : H fa = none := y1.hh.free hfa
  have s2 : Same G1 (upd H1 fa (.lst [])) := y1.gh.mut gfa
  refine b_cons (s_for (G := G1) ps PyData.str (fun c G σ σ2 => ∃ v, Dq G v (.str c) ∧ σ2 = σ.set 3 (some v))
    (fun i σ' G' H' => (∃ x y, σ' = [some (.str z), some bv, some (.ref fa), x, y]) ∧ Same G' H' ∧ G' fa = none ∧ (∀ b o, H b = some o → H' b = some o) ∧ (∀ b, H b ≠ none → G b = none → G' b = none) ∧ ∃ fs, H' fa = some (.lst fs) ∧ DqAll G' fs ((kindsT (ks.take i)).map rowD))
    PassesOwn.never rfl (EI.to (ei_seq rfl (ed_slL (ed_var 1 rfl hb) (eo_some (i := ((1 : Nat) : Int)) ed_int) eo_none)) (by rw [cut_from]; rfl)) s2 (fun G2 H2 y => ?_) (fun i σ' G' H' h => h.2.1) (fun c hc G3 s3 σ' => bnd_name 3 c_law_host.nd) ?_ ?_)
  · refine ⟨⟨none, none, rfl⟩, y.gh, y.out fa (by rw [upd_same]; exact fun z => by cases z) gfa, fun b o e => y.hh _ _ (by rw [upd_ne (ne_of_none (y1.hh _ _ e) hfa)]; exact y1.hh _ _ e), fun b h1 h2 => y.out b (by
      cases e : H b with
      | none => exact absurd e h1
      | some o =>
        rw [upd_ne (ne_of_none (y1.hh _ _ e) hfa), y1.hh _ _ e]
        exact fun z => by cases z) (y1.out b h1 h2), [], y.hh _ _ upd_same, .nil⟩
  · rintro i c σ' G' H' G6 H6 σ2 hi ⟨⟨x0, x1, rfl⟩, sg, k1, kh, ko, fs, hf', hfs⟩ sa y6 ⟨v, hv6, rfl⟩
    cases hv6
    have f6 := y6.hh _ _ hf'
    have g6f := y6.out _ (by rw [hf']; exact fun z => by cases z) k1
    have cm : c ∈ ps := List.mem_of_getElem? hi
    obtain ⟨e, he, hce⟩ : ∃ e, ks[i]? = some e ∧ Txt.split c " " = e.1 :: e.2 := by
      have h1 := congrArg (fun l => l[i]?) c3
      simp only [List.getElem?_map, hi, Option.map_some] at h1
      cases e : ks[i]? with
      | none => rw [e] at h1; cases h1
      | some x => rw [e] at h1; exact ⟨x, rfl, Option.some.inj h1⟩
    have hem : e ∈ ks := List.mem_of_getElem? he
    refine b_cons (s_set 4 c_law_host.nd (d := .list ((e.1 :: e.2).map .str)) (ED.to (ed_split (b := " ") (by decide) (by have := c5 c cm; omega) (ed_var 3 rfl (.str c)) ed_str) (by rw [hce])) y6.gh fun wv G7 H7 y7 hwv => ?_)
    have y67 := y6.trans y7
    have f7 := y7.hh _ _ f6
    have g7f := y7.out _ (by rw [f6]; exact fun z => by cases z) g6f
    have fsl : fs.length ≤ 10 := by
      rw [hfs.length, List.length_map]
      unfold kindsT
      rw [List.length_map, List.length_take]
      have := fl.szk
      omega
    refine b_one (s_dropV (we (pe_bm PySem.F.plainAttrs_list PySem.F.slot_list_append PySem.F.type_list_append mt_append pe pa) (w_var 2 rfl ⟨.inl ⟨rfl, _, .of f7⟩, wa (pa_cons pe pa_nil) (w_ed (d := rowD (e.1, .tuple (e.2.map .str))) ?_ y7.gh fun ev G8 H8 y8 hev => ?_)⟩)))
    · refine ed_tup (eds_cons (ed_ix (i := 0) rfl (at0 _ _) (ed_var 4 rfl hwv) ed_int) (eds_cons ?_ eds_nil)) (by show 2 ≤ 100000; decide)
      refine ed_tuple (d := .list (e.2.map .str)) rfl B.tuple ?_
      refine ED.to (ed_sortS (d := .list (e.2.map .str)) hr.units rfl (by have := fl.szm e hem; omega) B.sorted ?_) (by rw [sSort_asc (fl.ascm e hem)])
      exact ED.to (ed_slL (ed_var 4 rfl hwv) (eo_some (i := ((1 : Nat) : Int)) ed_int) eo_none) (by rw [cut_from]; rfl)
    · have f8 := y8.hh _ _ f7
      have g8f := y8.out _ (by rw [f7]; exact fun z => by cases z) g7f
      have y68 := y67.trans y8
      refine ⟨fa, fs, ev, rfl, rfl, f8, Nat.lt_of_le_of_lt fsl (by decide), G8, ⟨⟨_, _, rfl⟩, y8.gh.mut g8f, g8f, fun b o e => by rw [upd_ne (fun z => by rw [z, hHfa] at e; cases e)]; exact y68.hh _ _ (kh b o e), fun b h1 h2 => y68.out b (by
        cases e : H b with
        | none => exact absurd e h1
        | some o =>
          rw [kh b o e]
          exact fun z => by cases z) (ko b h1 h2), fs ++ [ev], upd_same, ?_⟩, y7.gg.trans y8.gg⟩
      rw [List.take_add_one, he]
      unfold kindsT
      rw [List.map_append, List.map_append]
      exact DqAll.append (.cons hev .nil) (hfs.up y68.gg)
  · rintro σ' G' H' ⟨⟨x0, x1, rfl⟩, sg, k1, kh, ko, fs, hf', hfs⟩ sa
    rw [pl, List.take_length] at hfs
    have s4 : Same G' (upd G' fa (.lst fs)) := Same.laid k1
    have sH : Same (upd G' fa (.lst fs)) H' := fun b o e => by
      by_cases z : b = fa
      · rw [z, upd_same] at e
        rw [z, hf']
        exact e
      · rw [upd_ne z] at e
        exact sg b o e
    have hfd : Dq (upd G' fa (.lst fs)) (.ref fa) (.list ((kindsT ks).map rowD)) := .lst upd_same (hfs.up s4)
    have hb' := hb.up (sa.trans s4)
    have xx : Ext G H (upd G' fa (.lst fs)) H' := ⟨y1.gg.trans (sa.trans s4), kh, sH, fun b h1 h2 => by
      rw [upd_ne (fun z => h1 (by rw [z, hHfa]))]
      exact ko b h1 h2⟩
    refine b_one (s_retV (we (pe_tup pa) (wa (pa_cons pe pa) (w_ed (d := .tuple (cpus.map .str)) ?_ sH fun xv G5 H5 y5 hxv => wa (pa_cons pe pa_nil) (w_ev (R := FrT ((kindsT ks).map rowD)) ?_ y5.gh fun yv G6 H6 y6 hyv => ⟨by show 2 ≤ sizeLine; decide, fun a ha => ?_⟩)))))
    · refine ed_tuple (d := .list (cpus.map .str)) rfl B.tuple ?_
      refine ED.to (ed_sortS (d := .list (cpus.map .str)) hr.units rfl (by have := fl.szc; omega) B.sorted ?_) (by rw [sSort_asc fl.asc])
      exact ED.to (ed_split (z := p0) (b := " ") (by decide) (by omega) (ed_ix (i := 0) (ds := (p0 :: ps).map .str) rfl (at0 _ _) (ed_var 1 rfl hb') ed_int) ed_str) (by rw [c2])
    · refine ev_tuple B.tuple ?_
      refine ED.to (ed_sorted (d := .list ((kindsT ks).map rowD)) hr.units rfl (alike_kinds ks) (ok_kinds ks) (by unfold kindsT; rw [List.length_map, List.length_map]; have := fl.szk; omega) (fun x hx => ?_) B.sorted (ed_var 2 rfl (hfd.up y5.gg))) (by rw [sort_kinds fl.asck])
      obtain ⟨y, hy, rfl⟩ := List.mem_map.mp hx
      obtain ⟨e, he, rfl⟩ := List.mem_map.mp hy
      have := dep_strs e.2
      simp only [rowD, PyData.depth, PyData.depthAll, this]
      omega
    · have x6 := (xx.trans y5).trans y6
      have sl := Same.laid (o := .tup [xv, yv]) (x6.gh.free ha)
      exact q _ _ _ (x6.trans (Ext.new x6.gh ha)) ⟨a, xv, yv, rfl, .inl upd_same, (hxv.up y6.gg).up sl, hyv.up sl⟩
end
end Wk
set_option maxHeartbeats 4000000
/-! tuple(zip(a, b)): the pairs that are kept. -/
namespace Wk
open PySem PySem.Spec PySem.W PySem.Calls PyProof.Rows L2
section
variable {prog : Program} {w : World} {A : Around} {E : Value → Shared → Prop} {s : Shared} {R : Result → Shared → Prop}
/-- a zip of two lists behind i items, as the tuples that it gave -/
structure ZAt (h : Heap) (z TI TO i1 i2 l1 l2 lo : Addr) (xs ys : Array Value) (i : Nat) (as : List Addr) : Prop where
  zz : (IsZip h z TI TO .none ∧ ∃ a b, IsPair h TO a b) ∨ ∃ T f o, IsZipHeld h z TI TO T f ∧ h.get? T = some o ∧ lo < T
  ti : IsPair h TI (.ref i1) (.ref i2)
  ci : h.IsListIter i1 l1 i
  cj : h.IsListIter i2 l2 i
  xi : h.IsList l1 xs
  xj : h.IsList l2 ys
  len : as.length = i
  low : ∀ a ∈ as, lo < a
  at' : ∀ (j : Nat) (a : Addr), as[j]? = some a → ∃ x y : Value, xs[j]? = some x ∧ ys[j]? = some y ∧ IsPair h a x y
  inc : as.Pairwise (· < ·)
structure ZLow (z TI TO i1 i2 l1 l2 lo : Addr) : Prop where
  z : z < lo
  TI : TI < lo
  TO : TO < lo
  i1 : i1 < lo
  i2 : i2 < lo
  l1 : l1 < lo
  l2 : l2 < lo
theorem ZAt.keep {h h' : Heap} {z TI TO i1 i2 l1 l2 lo : Addr} {xs ys : Array Value} {i : Nat} {as : List Addr} (Z : ZAt h z TI TO i1 i2 l1 l2 lo xs ys i as) (L : ZLow z TI TO i1 i2 l1 l2 lo) (k : ∀ b o, b ≠ lo → h.get? b = some o → h'.get? b = some o) : ZAt h' z TI TO i1 i2 l1 l2 lo xs ys i as where
  zz := by
    rcases Z.zz with ⟨a, x, y, b⟩ | ⟨T, f, o, a, b, c⟩
    · exact .inl ⟨k _ _ (Nat.ne_of_lt L.z) a, x, y, k _ _ (Nat.ne_of_lt L.TO) b⟩
    · exact .inr ⟨T, f, o, k _ _ (Nat.ne_of_lt L.z) a, k _ _ (Nat.ne_of_gt c) b, c⟩
  ti := k _ _ (Nat.ne_of_lt L.TI) Z.ti
  ci := Z.ci.at fun o e => k _ _ (Nat.ne_of_lt L.i1) e
  cj := Z.cj.at fun o e => k _ _ (Nat.ne_of_lt L.i2) e
  xi := Z.xi.at fun o e => k _ _ (Nat.ne_of_lt L.l1) e
  xj := Z.xj.at fun o e => k _ _ (Nat.ne_of_lt L.l2) e
  len := Z.len
  low := Z.low
  at' := fun j a e => by
    obtain ⟨x, y, h1, h2, h3⟩ := Z.at' j a e
    exact ⟨x, y, h1, h2, k _ _ (Nat.ne_of_gt (Z.low a (List.mem_of_getElem? e))) h3⟩
  inc := Z.inc
/-- one more pair -/
theorem ZAt.item {z TI TO i1 i2 l1 l2 lo : Addr} {xs ys : Array Value} {i : Nat} {as : List Addr} {Q : Option Value → Shared → Prop} (D : ZipApart z TI TO i1 i2 l1 l2) (L : ZLow z TI TO i1 i2 l1 l2 lo) (Z : ZAt s.heap z TI TO i1 i2 l1 l2 lo xs ys i as) (hlo : lo < s.heap.objs.size) (h1 : i < xs.size) (h2 : i < ys.size)
    (q : ∀ h', ZAt h' z TI TO i1 i2 l1 l2 lo xs ys (i + 1) (as ++ [s.heap.objs.size]) → lo < h'.objs.size → (∀ b o, b ≠ z → b ≠ TO → b ≠ i1 → b ≠ i2 → s.heap.get? b = some o → h'.get? b = some o) → Q (some (.ref s.heap.objs.size)) { s with heap := h' }) : wpAny (model prog w) A (pyNext (.ref z)) Q E s := by
  have e1 : xs[i]? = some xs[i] := Array.getElem?_eq_getElem h1
  have e2 : ys[i]? = some ys[i] := Array.getElem?_eq_getElem h2
  have fin : ∀ h', (∃ T f o, IsZipHeld h' z TI TO T f ∧ h'.get? T = some o ∧ lo < T) → h'.IsListIter i1 l1 (i + 1) → h'.IsListIter i2 l2 (i + 1) → IsPair h' s.heap.objs.size xs[i] ys[i] → h'.objs.size = s.heap.objs.size + 1 →
      (∀ c o, c ≠ z → c ≠ TO → c ≠ i1 → c ≠ i2 → s.heap.get? c = some o → h'.get? c = some o) → Q (some (.ref s.heap.objs.size)) { s with heap := h' } := fun h' a1 a2 a3 a4 a5 a6 => by
    refine q h' ⟨.inr a1, a6 _ _ D.TIz D.TITO D.TIi1 D.TIi2 Z.ti, a2, a3, Z.xi.at fun o e => a6 _ _ D.l1z D.l1TO D.l1i1 D.l1i2 e, Z.xj.at fun o e => a6 _ _ D.l2z D.l2TO D.l2i1 D.l2i2 e, by rw [List.length_append, Z.len]; rfl, fun a ha => ?_, fun j a e => ?_, List.pairwise_append.mpr ⟨Z.inc, List.pairwise_singleton _ _, fun a ha b hb => ?_⟩⟩ (by rw [a5]; exact Nat.lt_succ_of_lt hlo) a6
    · rcases List.mem_append.mp ha with ha | ha
      · exact Z.low a ha
      · rw [List.mem_singleton] at ha
        rw [ha]
        exact hlo
    · by_cases hj : j < as.length
      · rw [List.getElem?_append_left hj] at e
        obtain ⟨x, y, b1, b2, b3⟩ := Z.at' j a e
        have la := Z.low a (List.mem_of_getElem? e)
        exact ⟨x, y, b1, b2, a6 _ _ (Nat.ne_of_gt (Nat.lt_trans L.z la)) (Nat.ne_of_gt (Nat.lt_trans L.TO la)) (Nat.ne_of_gt (Nat.lt_trans L.i1 la)) (Nat.ne_of_gt (Nat.lt_trans L.i2 la)) b3⟩
      · have hl : j < as.length + 1 := by
          have := (List.getElem?_eq_some_iff.mp e).1
          simpa using this
        have : j = i := by have := Z.len; omega
        subst this
        rw [← Z.len, List.getElem?_concat_length] at e
        cases e
        exact ⟨_, _, e1, e2, a4⟩
    · rw [List.mem_singleton] at hb
      obtain ⟨j, hj⟩ := List.mem_iff_getElem?.mp ha
      obtain ⟨x, y, _, _, b3⟩ := Z.at' j a hj
      rw [hb]
      exact Heap.lt_size b3
  rcases Z.zz with ⟨a, x, y, b⟩ | ⟨T, f, o, a, b, c⟩
  · exact wpAny_pyNext_zip_item D a Z.ti b Z.ci Z.cj Z.xi Z.xj e1 e2 fun h' b1 b2 b3 b4 b5 b6 b7 => fin h' ⟨s.heap.objs.size, false, _, b1, b5, hlo⟩ b3 b4 b5 b6 b7
  · exact wpAny_pyNext_zip_item_held D a b Z.ti Z.ci Z.cj Z.xi Z.xj e1 e2 fun h' b1 b3 b4 b5 b6 b7 => fin h' ⟨T, true, o, b1, b7 _ _ (Nat.ne_of_gt (Nat.lt_trans L.z c)) (Nat.ne_of_gt (Nat.lt_trans L.i1 c)) (Nat.ne_of_gt (Nat.lt_trans L.i2 c)) b, c⟩ b3 b4 b5 b6 fun c o c1 _ c3 c4 e => b7 c o c1 c3 c4 e
theorem ZAt.done {z TI TO i1 i2 l1 l2 lo : Addr} {xs ys : Array Value} {i : Nat} {as : List Addr} {Q : Option Value → Shared → Prop} (hh : A.handled = none) (D : ZipApart z TI TO i1 i2 l1 l2) (Z : ZAt s.heap z TI TO i1 i2 l1 l2 lo xs ys i as) (he : xs[i]? = none ∨ ys[i]? = none)
    (q : ∀ h', (∀ b o, b ≠ z → b ≠ TO → b ≠ i1 → b ≠ i2 → s.heap.get? b = some o → h'.get? b = some o) → Q none { s with heap := h' }) : wpAny (model prog w) A (pyNext (.ref z)) Q E s := by
  rcases Z.zz with ⟨a, x, y, b⟩ | ⟨T, f, o, a, b, c⟩
  · exact wpAny_pyNext_zip_end hh D a Z.ti b Z.ci Z.cj Z.xi Z.xj he q
  · exact wpAny_pyNext_zip_end_held hh D a b Z.ti Z.ci Z.cj Z.xi Z.xj he fun h' k => q h' fun b o c1 _ c3 c4 e => k b o c1 c3 c4 e
structure PairsIn (h : Heap) (lo : Addr) (xs ys : Array Value) (as : List Addr) : Prop where
  at' : ∀ (j : Nat) (a : Addr), as[j]? = some a → ∃ x y : Value, xs[j]? = some x ∧ ys[j]? = some y ∧ IsPair h a x y
  low : ∀ a ∈ as, lo < a
  inc : as.Pairwise (· < ·)
theorem zloop {z TI TO i1 i2 l1 l2 lo : Addr} {xs ys : Array Value} (hh : A.handled = none) (D : ZipApart z TI TO i1 i2 l1 l2) (L : ZLow z TI TO i1 i2 l1 l2 lo) (res : Value) (hz : xs.size ≤ 1000) :
    ∀ (k i : Nat) (s : Shared) (acc : Array Value) (c : Nat) (as : List Addr), min xs.size ys.size - i = k → i ≤ min xs.size ys.size → ZAt s.heap z TI TO i1 i2 l1 l2 lo xs ys i as → lo < s.heap.objs.size → s.heap.get? lo = some { cls := .type "list", dict := none, data := .seq acc c, slots := #[] } → acc.toList = as.map Value.ref →
    (∀ h' acc' c' as', (∀ b o, b ≠ lo → b ≠ z → b ≠ TO → b ≠ i1 → b ≠ i2 → s.heap.get? b = some o → h'.get? b = some o) → h'.get? lo = some { cls := .type "list", dict := none, data := .seq acc' c', slots := #[] } → acc'.toList = as'.map Value.ref → as'.length = min xs.size ys.size → PairsIn h' lo xs ys as' → R (.ok (.ret res)) { s with heap := h' }) →
    codeAny (model prog w) A (.builtin "list.extend.loop" ⟨[.ref lo, .ref z, res], []⟩) R s := by
  intro k
  have zl := L.z
  have tl := L.TO
  have il := L.i1
  have jl := L.i2
  induction k with
  | zero =>
    intro i s acc c as hk hi Z hlo hS hacc hR
    refine codeAny_builtin F.entry_extend_loop ?_
    rw [Around.under_plainId F.plain_extend_loop _]
    refine wpAny_bind (Z.done hh D (by
      by_cases h : xs.size ≤ i
      · exact .inl (Array.getElem?_eq_none h)
      · exact .inr (Array.getElem?_eq_none (by omega))) fun h' kp => ?_)
    refine wpAny_pure (hR h' acc c as (fun b o _ c1 c2 c3 c4 e => kp b o c1 c2 c3 c4 e) (kp _ _ (Nat.ne_of_gt zl) (Nat.ne_of_gt tl) (Nat.ne_of_gt il) (Nat.ne_of_gt jl) hS) hacc (by have := Z.len; omega) ⟨fun j a e => ?_, Z.low, Z.inc⟩)
    obtain ⟨x, y, b1, b2, b3⟩ := Z.at' j a e
    have la := Z.low a (List.mem_of_getElem? e)
    exact ⟨x, y, b1, b2, kp _ _ (Nat.ne_of_gt (Nat.lt_trans L.z la)) (Nat.ne_of_gt (Nat.lt_trans L.TO la)) (Nat.ne_of_gt (Nat.lt_trans L.i1 la)) (Nat.ne_of_gt (Nat.lt_trans L.i2 la)) b3⟩
  | succ k ih =>
    intro i s acc c as hk hi Z hlo hS hacc hR
    refine codeAny_builtin F.entry_extend_loop ?_
    rw [Around.under_plainId F.plain_extend_loop _]
    refine wpAny_bind (Z.item D L hlo (by omega) (by omega) fun h' Z' hlo' kp => ?_)
    have hS' := kp lo _ (Nat.ne_of_gt zl) (Nat.ne_of_gt tl) (Nat.ne_of_gt il) (Nat.ne_of_gt jl) hS
    have sz : acc.size ≤ 1000 := by
      have e := congrArg List.length hacc
      rw [Array.length_toList, List.length_map, Z.len] at e
      omega
    refine wpAny_bind ?_
    have hS2 := Heap.get?_update_self (Obj.mapSeq (·.push (Value.ref s.heap.objs.size))) hS' rfl
    have oth : ∀ b o, b ≠ lo → h'.get? b = some o → (h'.update lo (Obj.mapSeq (·.push (Value.ref s.heap.objs.size)))).get? b = some o := fun b o hb e => (Heap.get?_update_other _ _ (Ne.symm hb)).trans e
    refine wpAny_updateSeq hS' rfl (wpAny_pure ⟨plainId_quiet F.plain_extend_loop _, ih (i + 1) _ (acc.push (Value.ref s.heap.objs.size)) _ (as ++ [s.heap.objs.size]) (by omega) (by omega) (Z'.keep L oth) (Heap.lt_size hS2) hS2 (by rw [Array.toList_push, hacc, List.map_append]; rfl) fun h2 acc' c' as' kp2 a1 a2 a3 a4 => hR h2 acc' c' as' (fun b o c0 c1 c2 c3 c4 e => kp2 b o c0 c1 c2 c3 c4 (oth b o c0 (kp b o c1 c2 c3 c4 e))) a1 a2 a3 a4⟩) (Nat.le_trans sz (by decide)) ?_
    show (acc.push _).size ≤ _
    rw [Array.size_push]
    exact Nat.le_trans (Nat.add_le_add_right sz 1) (by decide)
theorem zip_nolen : typeLookup (.type "zip") "__len__" = pure none := by rw [typeLookup_type, builtinLookup_eq_fast]; kernel_rfl
theorem zip_nohint : typeLookup (.type "zip") "__length_hint__" = pure none := by rw [typeLookup_type, builtinLookup_eq_fast]; kernel_rfl
theorem collect_zip {z TI TO i1 i2 l1 l2 : Addr} {xs ys : Array Value} {Q : List Value → Shared → Prop} (hh : A.handled = none) (D : ZipApart z TI TO i1 i2 l1 l2) (L : ZLow z TI TO i1 i2 l1 l2 s.heap.objs.size) (hz : xs.size ≤ 1000)
    (zz : IsZip s.heap z TI TO .none) (zo : ∃ a b, IsPair s.heap TO a b) (ti : IsPair s.heap TI (.ref i1) (.ref i2)) (ci : s.heap.IsListIter i1 l1 0) (cj : s.heap.IsListIter i2 l2 0) (xi : s.heap.IsList l1 xs) (xj : s.heap.IsList l2 ys)
    (hQ : ∀ h' as, (∀ b o, b ≠ z → b ≠ TO → b ≠ i1 → b ≠ i2 → s.heap.get? b = some o → h'.get? b = some o) → as.length = min xs.size ys.size → PairsIn h' s.heap.objs.size xs ys as → Q (as.map Value.ref) { s with heap := h' }) : wpAny (model prog w) A (collect (.ref z)) Q E s := by
  have Z0 : ZAt s.heap z TI TO i1 i2 l1 l2 s.heap.objs.size xs ys 0 [] := ⟨.inl ⟨zz, zo⟩, ti, ci, cj, xi, xj, rfl, fun a ha => by simp at ha, fun j a e => by simp at e, List.Pairwise.nil⟩
  have ne : ∀ b o, s.heap.get? b = some o → b ≠ s.heap.objs.size := fun b o e => Nat.ne_of_lt (Heap.lt_size e)
  unfold collect
  refine wpAny_bind (wpAny_runValue (codeAny_builtin F.entry_proto_collect ?_))
  rw [Around.under_plainId F.plain_proto_collect _]
  show wpAny _ A.in1 (newList [] >>= fun l => again (.builtin "list.__iadd__" ⟨[l, .ref z], []⟩)) _ _ s
  refine wpAny_bind (wpAny_newObj_type ?_)
  refine wpAny_pure ⟨plainId_quiet F.plain_list_iadd _, codeAny_builtin F.entry_list_iadd ?_⟩
  rw [Around.under_plainId F.plain_list_iadd _]
  have k1 : ∀ b o, s.heap.get? b = some o → (s.heap.push { cls := .type "list", data := .seq ([] : List Value).toArray }).get? b = some o := fun b o e => Heap.get?_push_of_some _ e
  have Z1 := Z0.keep L fun b o _ e => k1 b o e
  have hT : ∀ h : Heap, IsZip h z TI TO .none → Shared.TypeIs { s with heap := h } (.ref z) "zip" := fun h e => ⟨_, e, rfl⟩
  have zz1 := k1 _ _ zz
  show wpAny _ A.in1 (Builtin.List.listExtendWith (.ref s.heap.objs.size) (.ref z) (.ref s.heap.objs.size)) _ _ _
  unfold Builtin.List.listExtendWith
  refine wpAny_bind (wpAny_typeOf (hT _ zz1) ?_)
  have e1 : Builtin.List.listSameRef (.ref s.heap.objs.size) (.ref z) = false := by simp [Builtin.List.listSameRef, Nat.ne_of_gt L.z]
  have e2 : (Value.type "zip" == Value.type "list") = false := by decide
  have e3 : (Value.type "zip" == Value.type "tuple") = false := by decide
  simp only [e1, e2, e3, Bool.or_false, Bool.false_eq_true, if_false]
  have zo1 : ∃ a b, IsPair (s.heap.push { cls := .type "list", data := .seq ([] : List Value).toArray }) TO a b := by
    obtain ⟨a, b, e⟩ := zo
    exact ⟨a, b, k1 _ _ e⟩
  refine wpAny_bind ((WalksT.zip2 (prog := prog) (w := w) (A := A.in1) hh z TI TO i1 i2 l1 l2 D xs ys).self 0 _ _ _ ⟨zz1, Z1.ti, zo1, Z1.ci, Z1.cj, Z1.xi, Z1.xj⟩ ?_)
  refine wpAny_bind (wpAny_holding ?_)
  unfold Builtin.List.listLengthHint
  refine wpAny_bind (wpAny_specialOf (hT _ zz1) zip_nolen ?_)
  show wpAny _ A.in1 (specialOf (Value.ref z) (Str.ofString "__length_hint__") >>= _) _ _ _
  refine wpAny_bind (wpAny_specialOf (hT _ zz1) zip_nohint ?_)
  refine wpAny_pure ?_
  show wpAny _ A.in1 (rule "list.extend.makes-room" >>= fun _ => Builtin.List.listTouch (.ref s.heap.objs.size) >>= fun _ =>
    again (.builtin "list.extend.loop" ⟨[.ref s.heap.objs.size, .ref z, .ref s.heap.objs.size], []⟩)) _ _ _
  refine wpAny_bind (wpAny_rule ?_)
  have S1 : (s.heap.push { cls := .type "list", data := .seq ([] : List Value).toArray }).get? s.heap.objs.size = some { cls := .type "list", data := .seq ([] : List Value).toArray } := Heap.get?_push_size _ rfl
  refine wpAny_bind ?_
  show wpAny _ A.in1 (updateSeq s.heap.objs.size (·.push .none) >>= fun _ => updateSeq s.heap.objs.size (·.pop)) _ _ _
  refine wpAny_bind (wpAny_updateSeq S1 rfl ?_)
  have S2 := Heap.get?_update_self (Obj.mapSeq (·.push Value.none)) S1 rfl
  refine wpAny_updateSeq S2 rfl ?_
  have S3 := Heap.get?_update_self (Obj.mapSeq (·.pop)) S2 rfl
  have oth : ∀ b o, b ≠ s.heap.objs.size → (s.heap.push { cls := .type "list", data := .seq ([] : List Value).toArray }).get? b = some o →
      (((s.heap.push { cls := .type "list", data := .seq ([] : List Value).toArray }).update s.heap.objs.size (Obj.mapSeq (·.push Value.none))).update s.heap.objs.size (Obj.mapSeq (·.pop))).get? b = some o :=
    fun b o hb e => (Heap.get?_update_other _ _ (Ne.symm hb)).trans ((Heap.get?_update_other _ _ (Ne.symm hb)).trans e)
  refine wpAny_pure ⟨plainId_quiet F.plain_extend_loop _, zloop hh D L _ hz _ 0 _ _ _ [] rfl (Nat.zero_le _) (Z1.keep L oth) (Heap.lt_size S3) S3 rfl fun h' acc' c' as' kp a1 a2 a3 a4 => ?_⟩
  show wpAny _ A (load s.heap.objs.size >>= _) _ _ _
  refine wpAny_bind (wpAny_load a1 ?_)
  refine wpAny_pure ?_
  show Q acc'.toList _
  rw [a2]
  exact hQ h' as' (fun b o c1 c2 c3 c4 e => kp b o (ne b o e) c1 c2 c3 c4 (oth b o (ne b o e) (k1 b o e))) a3 a4
theorem meets_tuple_zip (z TI TO i1 i2 l1 l2 : Addr) (xs ys : Array Value) (hz : xs.size ≤ 1000) :
    Meets (Builtin.«tuple.__new__» ⟨[.type "tuple", .ref z], []⟩)
      (fun A R s => A.handled = none ∧ ZipApart z TI TO i1 i2 l1 l2 ∧ ZLow z TI TO i1 i2 l1 l2 s.heap.objs.size ∧ IsZip s.heap z TI TO .none ∧ (∃ a b, IsPair s.heap TO a b) ∧ IsPair s.heap TI (.ref i1) (.ref i2) ∧ s.heap.IsListIter i1 l1 0 ∧ s.heap.IsListIter i2 l2 0 ∧ s.heap.IsList l1 xs ∧ s.heap.IsList l2 ys ∧
        ∀ (h' : Heap) (as : List Addr), (∀ b o, b ≠ z → b ≠ TO → b ≠ i1 → b ≠ i2 → s.heap.get? b = some o → h'.get? b = some o) → as.length = min xs.size ys.size → PairsIn h' s.heap.objs.size xs ys as → R (.ok (.ret (.ref h'.objs.size))) { s with heap := h'.push { cls := .type "tuple", data := .seq (as.map Value.ref).toArray } }) :=
  .of_wp fun prog w A R s h => by
    obtain ⟨hp, g, d, tk, os⟩ := s
    obtain ⟨hh, D, L, zz, zo, ti, ci, cj, xi, xj, h⟩ := h
    have hsub := sub_tuple_self
    have hinit := init_tuple_lookup
    have hmh := madeHere_tuple
    have hT : Shared.TypeIs ⟨hp, g, d, tk, os⟩ (.ref z) "zip" := ⟨_, zz, rfl⟩
    have ht : hp.get? z = some { cls := .type "zip", dict := none, data := .fields #[.none, .bool false, .bool false, .ref TI, .ref TO], slots := #[] } := zz
    wp_walk using AutoSeq1.wpAny_loadPart' ht, wpAny_typeOf hT, collect_zip (A := A.in1) hh D L hz zz zo ti ci cj xi xj
    intro h' as k1 k2 k3
    show wpAny _ _ (Builtin.Tuple.tupleExact (as.map Value.ref).toArray >>= fun v => ret v) _ _ _
    unfold Builtin.Tuple.tupleExact
    have sz : (as.map Value.ref).toArray.size ≤ sizeLine := by
      rw [List.size_toArray, List.length_map, k2]
      exact Nat.le_trans (Nat.le_trans (Nat.min_le_left _ _) hz) (by decide)
    refine wpAny_bind (wpAny_newObj_type ?_ sz)
    exact wpAny_pure ⟨_, rfl, h h' as k1 k2 k3⟩
theorem call_tuple_zip {z TI TO i1 i2 l1 l2 : Addr} {xs ys : Array Value} {Q : Value → Shared → Prop} (hh : A.handled = none) (D : ZipApart z TI TO i1 i2 l1 l2) (L : ZLow z TI TO i1 i2 l1 l2 s.heap.objs.size) (hz : xs.size ≤ 1000)
    (zz : IsZip s.heap z TI TO .none) (zo : ∃ a b, IsPair s.heap TO a b) (ti : IsPair s.heap TI (.ref i1) (.ref i2)) (ci : s.heap.IsListIter i1 l1 0) (cj : s.heap.IsListIter i2 l2 0) (xi : s.heap.IsList l1 xs) (xj : s.heap.IsList l2 ys)
    (hQ : ∀ h' as, (∀ b o, b ≠ z → b ≠ TO → b ≠ i1 → b ≠ i2 → s.heap.get? b = some o → h'.get? b = some o) → as.length = min xs.size ys.size → PairsIn h' s.heap.objs.size xs ys as → Q (.ref h'.objs.size) { s with heap := h'.push { cls := .type "tuple", data := .seq (as.map Value.ref).toArray } }) :
    wpAny (model prog w) A (call (.type "tuple") [.ref z]) Q E s :=
  callType_new F.called_tuple (by decide) (F.typeCall_tuple_1 _) (F.newCall_tuple_1 _) (fun obj => F.args_object_init_2 obj _) F.entry_tuple_new
    (meets_tuple_zip z TI TO i1 i2 l1 l2 xs ys hz) ⟨hh, D, L, zz, zo, ti, ci, cj, xi, xj, fun h' as k1 k2 k3 => ⟨⟨_, Heap.get?_push_size _ rfl, rfl⟩, hQ h' as k1 k2 k3⟩⟩
end
end Wk
set_option maxHeartbeats 4000000
/-! tuple(zip(a, b)), a and b lists of texts. -/
namespace Wk
open PySem PySem.Spec PySem.W PySem.Calls PyProof.Rows L2
/-- more objects -/
def lays (L : List (Addr × HO)) (H : Hp) : Hp := fun b => match L.lookup b with
  | some o => some o
  | none => H b
theorem look_mem : ∀ {L : List (Addr × HO)} {b : Addr} {o : HO}, L.lookup b = some o → (b, o) ∈ L
  | [], _, _, h => nomatch h
  | (a, u) :: L, b, o, h => by
    rw [List.lookup_cons] at h
    by_cases e : b = a
    · subst e
      simp at h
      subst h
      exact List.mem_cons_self
    · have : (b == a) = false := by simpa using e
      rw [this] at h
      exact List.mem_cons_of_mem _ (look_mem h)
theorem look_none : ∀ {L : List (Addr × HO)} {b : Addr}, (∀ p ∈ L, p.1 ≠ b) → L.lookup b = none
  | [], _, _ => rfl
  | (a, u) :: L, b, h => by
    have e : (b == a) = false := by simpa using (h (a, u) List.mem_cons_self).symm
    rw [List.lookup_cons, e]
    exact look_none fun p hp => h p (List.mem_cons_of_mem _ hp)
theorem lays_in {L : List (Addr × HO)} {H : Hp} {b : Addr} {o : HO} (h : L.lookup b = some o) : lays L H b = some o := by unfold lays; rw [h]
theorem lays_out {L : List (Addr × HO)} {H : Hp} {b : Addr} (h : ∀ p ∈ L, p.1 ≠ b) : lays L H b = H b := by unfold lays; rw [look_none h]
theorem lays_cases {L : List (Addr × HO)} {H : Hp} {b : Addr} {o : HO} (h : lays L H b = some o) : (b, o) ∈ L ∨ (L.lookup b = none ∧ H b = some o) := by
  unfold lays at h
  cases e : L.lookup b with
  | some u =>
    rw [e] at h
    cases h
    exact .inl (look_mem e)
  | none =>
    rw [e] at h
    exact .inr ⟨rfl, h⟩
section
variable {X : Cx} {pins : List (Addr × Obj)} {σ : L2.St} {H : Hp} {s : Shared} {L : List (Addr × HO)} {h' : Heap}
theorem lays_same (hp : ∀ p ∈ L, H p.1 = none) : Same H (lays L H) := fun b o e => by
  rw [lays_out fun p h z => by
    have := hp p h
    rw [z, e] at this
    cases this]
  exact e
theorem inv_lays (I : Inv X pins σ H s) (k : ∀ b o, s.heap.get? b = some o → h'.get? b = some o) (hp : ∀ p ∈ L, s.heap.objs.size ≤ p.1) (new : ∀ p ∈ L, ObjOk X.prog X.w (lays L H) h' p.1 p.2) : Inv X pins σ (lays L H) { s with heap := h' } := by
  have fr : ∀ p ∈ L, H p.1 = none := fun p h => I.hok.fresh (hp p h)
  have sm := lays_same fr
  refine I.un (t' := s.toks) ⟨fun b u q _ _ _ => k b u q, fun b u q _ _ _ => ⟨u.slots, k b u q⟩, fun b u q n _ => ?_, fun b u q _ => ⟨u, k b u q⟩, fun b xs q => sm _ _ q, fun b u xs q => sm _ _ q, fun b ps q => ⟨#[], by rw [sm _ _ q]; simp⟩⟩ fun b o e => ?_
  · rw [lays_out fun p h z => ?_]
    · exact n
    · have := hp p h
      rw [z] at this
      exact absurd (Nat.lt_of_lt_of_le (Heap.lt_size q) this) (Nat.lt_irrefl _)
  · rcases lays_cases e with h | ⟨_, h⟩
    · exact new _ h
    · exact (I.hok b o h).stay (fun c u _ q => k c u q) (fun c q => sm _ _ q) fun c xs q => sm _ _ q
end
theorem apart_of (n l1 l2 : Nat) (h1 : l1 < n) (h2 : l2 < n) : ZipApart (n + 4) (n + 2) (n + 3) n (n + 1) l1 l2 := by
  constructor <;> (intro e; have e' : (_ : Nat) = _ := e; omega)
theorem low_of (n l1 l2 : Nat) (h1 : l1 < n) (h2 : l2 < n) : ZLow (n + 4) (n + 2) (n + 3) n (n + 1) l1 l2 (n + 5) := by
  constructor <;> (show (_ : Nat) < _; omega)
theorem look_at : ∀ {as : List Addr} {os : List HO} {j : Nat} {a : Addr} {o : HO}, as.Nodup → as[j]? = some a → os[j]? = some o → (as.zip os).lookup a = some o
  | [], _, _, _, _, _, h, _ => by simp at h
  | _ :: _, [], _, _, _, _, _, h => by simp at h
  | b :: as, u :: os, 0, a, o, nd, h1, h2 => by
    simp at h1 h2
    subst h1
    subst h2
    simp [List.lookup_cons]
  | b :: as, u :: os, j + 1, a, o, nd, h1, h2 => by
    rw [List.nodup_cons] at nd
    simp at h1 h2
    have ne : (a == b) = false := by
      have : a ≠ b := fun z => nd.1 (by rw [← z]; exact List.mem_of_getElem? h1)
      simpa using this
    rw [List.zip_cons_cons, List.lookup_cons, ne]
    exact look_at nd.2 h1 h2
theorem dq_pairs {G : Hp} : ∀ {as : List Addr} {ps : List (Str × Str)}, as.length = ps.length → (∀ (j : Nat) (a : Addr) (p : Str × Str), as[j]? = some a → ps[j]? = some p → G a = some (.tup [.str p.1, .str p.2])) → DqAll G (as.map V.ref) (ps.map prD)
  | [], [], _, _ => .nil
  | [], _ :: _, h, _ => by cases h
  | _ :: _, [], h, _ => by cases h
  | a :: as, p :: ps, h, q => .cons (.tupR (.inl (q 0 a p rfl rfl)) (.cons (.str _) (.cons (.str _) .nil))) (dq_pairs (Nat.succ.inj h) fun j a p h1 h2 => q (j + 1) a p (by simpa using h1) (by simpa using h2))
end Wk
set_option maxHeartbeats 4000000
namespace Wk
open PySem PySem.Spec PySem.W PySem.Calls PyProof.Rows L2
theorem boot_zip : bootBuiltins "zip" = some (.type "zip") := by first | rfl | decide +kernel
theorem vals_at : ∀ {xs : List Str} {its : List Value} {j : Nat} {x : Value}, Vals (xs.map V.str) its → its[j]? = some x → ∃ z t, xs[j]? = some z ∧ x = .str z t
  | [], _, _, _, .nil, h => by simp at h
  | z :: xs, _, 0, x, .cons r t, h => by
    obtain ⟨t, e⟩ := r
    simp at h
    subst h
    exact ⟨z, t, rfl, e⟩
  | z :: xs, _, j + 1, x, .cons r t, h => by
    obtain ⟨z', t', e1, e2⟩ := vals_at t (by simpa using h)
    exact ⟨z', t', by simpa using e1, e2⟩
theorem vals_refs : ∀ as : List Addr, Vals (as.map V.ref) (as.map Value.ref)
  | [] => .nil
  | a :: as => .cons rfl (vals_refs as)
theorem ext_lays {G H : Hp} {L : List (Addr × HO)} (s : Same G H) (fr : ∀ q ∈ L, H q.1 = none) : Ext G H (lays L G) (lays L H) := by
  refine ⟨lays_same fun q hq => s.free (fr q hq), lays_same fr, fun b o e => ?_, fun b h1 h2 => ?_⟩
  · unfold lays at e ⊢
    cases z : L.lookup b with
    | some u => rw [z] at e; exact e
    | none => rw [z] at e; exact s b o e
  · rw [lays_out fun q hq z => h1 (by rw [← z]; exact fr q hq)]
    exact h2
def prO (p : Str × Str) : HO := .tup [.str p.1, .str p.2]
section
variable {X : Cx} {a b : Expr} {σ : L2.St} {G : Hp} {p pos p2 pos2 : Pos}
theorem ed_tupzip {xs ys : List Str} (hc : X.calm = true) (hz : xs.length ≤ 1000) (hm : X.mg "tuple" = none) (hm2 : X.mg "zip" = none) (ha : ED X a σ G (.list (xs.map .str))) (hb : ED X b σ G (.list (ys.map .str))) (hg : Gl X "tuple" := by rfl) (hg2 : Gl X "zip" := by rfl)
    (na : starEach [a, b] X.env = (false, eval a X.env) :: starEach [b] X.env := by rfl) (nb : starEach [b] X.env = (false, eval b X.env) :: starEach [] X.env := by rfl) (npl : (backTo pos2 (starEach [b] X.env)).any (·.1) = false := by rfl) :
    ED X (.Call (.Name "tuple" p) [.Call (.Name "zip" p2) [a, b] [] pos2] [] pos) σ G (.tuple ((xs.zip ys).map prD)) := by
  intro H sG Q q
  refine ⟨fun pins s I => ?_⟩
  refine Call_ (ld_blt I hg hm boot_tuple ?_)
  refine PyProof.Rows.callWith_type1 (PyProof.Rows.args_cons ?_ rfl) rfl rfl
  refine Call_ (ld_blt I hg2 hm2 boot_zip ?_)
  refine PyProof.Rows.callWith_type1 (thn ((w_eds (eds_cons ha (eds_cons hb eds_nil nb) na) sG (fun vs G2 H2 y ps => (⟨G2, y, ps⟩ : ∃ G2, Ext G H G2 H2 ∧ DqAll G2 vs [.list (xs.map .str), .list (ys.map .str)]))).run pos2 pins s I) fun us s1 ⟨vs, H1, I1, r1, G1, y, ps⟩ => ?_) na npl
  obtain ⟨v, v', rfl, d1, d2⟩ := ps.two
  cases d1 with
  | @lst la ux _ g1 k1 =>
    cases d2 with
    | @lst lb uy _ g2 k2 =>
      cases DqAll.of_strs k1
      cases DqAll.of_strs k2
      cases r1 with
      | cons ra r2 =>
        cases r2 with
        | cons rb r3 =>
          cases r3
          cases ra
          cases rb
          obtain ⟨ia, va, pa', za⟩ := I1.list (.of (y.gh _ _ g1))
          obtain ⟨ib, vb, pb', zb⟩ := I1.list (.of (y.gh _ _ g2))
          have la' : la < s1.heap.objs.size := by obtain ⟨o, ho, _⟩ := pa'.isList; exact Heap.lt_size ho
          have lb' : lb < s1.heap.objs.size := by obtain ⟨o, ho, _⟩ := pb'.isList; exact Heap.lt_size ho
          have lenA : ia.length = xs.length := by rw [← va.length, List.length_map]
          have lenB : ib.length = ys.length := by rw [← vb.length, List.length_map]
          refine call_zip_2 pa'.isList pb'.isList fun h1 zz ti to c1 c2 sz kp => PyProof.Rows.args_nil ?_
          have L := low_of s1.heap.objs.size la lb la' lb'
          have L' : ZLow (s1.heap.objs.size + 4) (s1.heap.objs.size + 2) (s1.heap.objs.size + 3) s1.heap.objs.size (s1.heap.objs.size + 1) la lb h1.objs.size := by rw [sz]; exact L
          refine call_tuple_zip (s := { s1 with heap := h1 }) (xs := ia.toArray) (ys := ib.toArray) (I1.ok.hd hc) (apart_of _ la lb la' lb') L' (by rw [List.size_toArray, lenA]; exact hz) zz ⟨_, _, to⟩ ti c1 c2 (pa'.isList.at fun o e => kp _ _ e) (pb'.isList.at fun o e => kp _ _ e) fun h2 as k2 ln P => ?_
          have hlen : as.length = (xs.zip ys).length := by rw [ln, List.size_toArray, List.size_toArray, lenA, lenB, List.length_zip]
          have hlt : ∀ a ∈ as, a < h2.objs.size := fun a ha => by
            obtain ⟨j, hj⟩ := List.mem_iff_getElem?.mp ha
            obtain ⟨x, y', _, _, b3⟩ := P.at' j a hj
            exact Heap.lt_size b3
          have hnd : as.Nodup := P.inc.imp fun {a b} h => Nat.ne_of_lt h
          have old : ∀ b o, s1.heap.get? b = some o → (h2.push { cls := .type "tuple", data := .seq (as.map Value.ref).toArray }).get? b = some o := fun b o e => by
            have lt := Heap.lt_size e
            exact Heap.get?_push_of_some _ (k2 _ _ (Nat.ne_of_lt (Nat.lt_add_right 4 lt)) (Nat.ne_of_lt (Nat.lt_add_right 3 lt)) (Nat.ne_of_lt lt) (Nat.ne_of_lt (Nat.lt_add_right 1 lt)) (kp _ _ e))
          have big : s1.heap.objs.size ≤ h2.objs.size := by
            have A := apart_of s1.heap.objs.size la lb la' lb'
            have t := Heap.lt_size (k2 _ _ A.TIz A.TITO A.TIi1 A.TIi2 ti)
            exact Nat.le_of_lt (Nat.lt_of_le_of_lt (Nat.le_add_right _ 2) t)
          have J : Inv X pins σ (lays ((h2.objs.size, HO.tup (as.map V.ref)) :: as.zip ((xs.zip ys).map prO)) H1) { s1 with heap := h2.push { cls := .type "tuple", data := .seq (as.map Value.ref).toArray } } := by
            refine inv_lays I1 old (fun q hq => ?_) fun q hq => ?_
            · rcases List.mem_cons.mp hq with rfl | hq
              · exact big
              · have := P.low q.1 (List.of_mem_zip hq).1
                rw [sz] at this
                exact Nat.le_of_lt (Nat.lt_of_le_of_lt (Nat.le_add_right _ 5) this)
            · rcases List.mem_cons.mp hq with rfl | hq
              · exact ⟨by rw [List.length_map, hlen, List.length_zip]; exact Nat.le_trans (Nat.le_trans (Nat.min_le_left _ _) hz) (by decide), as.map Value.ref, vals_refs as, IsTup.new _ _⟩
              · obtain ⟨j, hj⟩ := List.mem_iff_getElem?.mp hq
                rw [List.getElem?_zip_eq_some] at hj
                obtain ⟨j1, j2⟩ := hj
                obtain ⟨x, y', b1, b2, b3⟩ := P.at' j q.1 j1
                obtain ⟨zx, tx, c1', rfl⟩ := vals_at va (by simpa using b1)
                obtain ⟨zy, ty, c2', rfl⟩ := vals_at vb (by simpa using b2)
                rw [List.getElem?_map, List.getElem?_zip_eq_some (z := (zx, zy)) |>.mpr ⟨c1', c2'⟩] at j2
                rw [← Option.some.inj j2]
                exact ⟨by show 2 ≤ sizeLine; decide, [.str zx tx, .str zy ty], .cons ⟨tx, rfl⟩ (.cons ⟨ty, rfl⟩ .nil), ⟨_, Heap.get?_push_of_some _ b3, rfl, _, rfl⟩⟩
          have fr : ∀ q ∈ (h2.objs.size, HO.tup (as.map V.ref)) :: as.zip ((xs.zip ys).map prO), H1 q.1 = none := fun q hq => I1.hok.fresh (by
            rcases List.mem_cons.mp hq with rfl | hq
            · exact big
            · have := P.low q.1 (List.of_mem_zip hq).1
              rw [sz] at this
              exact Nat.le_of_lt (Nat.lt_of_le_of_lt (Nat.le_add_right _ 5) this))
          refine ⟨.ref h2.objs.size, _, J, rfl, q _ _ _ (y.trans (ext_lays y.gh fr)) (.tupR (.inl (lays_in (by simp [List.lookup_cons]))) (dq_pairs hlen fun j a p e1 e2 => lays_in ?_))⟩
          have ne : (a == h2.objs.size) = false := by
            have := Nat.ne_of_lt (hlt a (List.mem_of_getElem? e1))
            simpa using this
          rw [List.lookup_cons, ne]
          exact look_at hnd e1 (by rw [List.getElem?_map, e2]; rfl)
end
end Wk
set_option maxHeartbeats 4000000
/-! right. -/
namespace Wk
open PySem PySem.Spec PyProof.Rows L2 Km PySem.Nt
theorem pool_nm : ∀ t ∈ taskPool, Nm t := by
  have h : ∀ t ∈ taskPool, 1 ≤ t.length ∧ t.length ≤ 8 ∧ ∀ c ∈ t.cps.toList, c ∈ letters := by decide +kernel
  exact fun t ht => ⟨(h t ht).1, (h t ht).2.1, (h t ht).2.2⟩
theorem okay_of {many : Nat} {cpus : List Str} {ks : List (Str × List Str)} {line : List (Str × Str)} (tg : Tags many cpus) (h4 : many ≤ 4) (kd : Kinds cpus ks) (dr : Drawn ks line) : Okay cpus ks line := by
  have cl := tg.len
  have k6 : ∀ e ∈ ks, e.2.length ≤ 6 := fun e he => by
    have := nodup_len (kd.sub e he).2 (kd.sub e he).1
    omega
  refine ⟨⟨kd.nd, dr.nd, dr.known, by have := dr.sz; omega⟩, fun e he => (kd.sub e he).1, by omega, tg.nm, fun e he => pool_nm _ (dr.pool e he), fun e he => ?_, k6, kd.sz, dr.sz⟩
  unfold maskOf
  cases h : ks.find? fun x => decide (x.1 = e.2) with
  | none => simp
  | some x => exact k6 x (List.mem_of_find?_eq_some h)
def ntD (n : Str) : PyData := .list [.str "no task", .str n, .bool true]
section
variable {X : Cx} {a b c e : Expr} {σ : L2.St} {G : Hp} {ld sd : PyData} {bd : PyData} {pos p : Pos} {k : Nat} {ks : List (Str × List Str)} {line : List (Str × Str)} {xs : List Str} {n : Str} {door : Int}
theorem ed_heard (Hd : CalX X CX0 "_law_heard" ["_law_door", "_law_host_here", "_law_line_so", "_law_bits"] k SpHeard) (hr : Room k X.A) (fair : Fair ks line) (ib : IsBook bd ks) (il : IsLine ld line) (hs : seqOf sd = some (xs.map .str)) (hz : xs.length ≤ 1000) (mis : missing line xs = some n) (h0 : ED X a σ G (.int door)) (h1 : ED X b σ G bd) (h2 : ED X c σ G ld) (h3 : ED X e σ G sd) (hg : Gl X "_law_heard" := by rfl)
    (he : starEach [a, b, c, e] X.env = (false, eval a X.env) :: starEach [b, c, e] X.env := by rfl) (he2 : starEach [b, c, e] X.env = (false, eval b X.env) :: starEach [c, e] X.env := by rfl) (he3 : starEach [c, e] X.env = (false, eval c X.env) :: starEach [e] X.env := by rfl) (he4 : starEach [e] X.env = (false, eval e X.env) :: starEach [] X.env := by rfl) (hpl : (backTo pos (starEach [b, c, e] X.env)).any (·.1) = false := by rfl) :
    ED X (.Call (.Name "_law_heard" p) [a, b, c, e] [] pos) σ G (ntD n) := fun H s Q q =>
  wcall (E := eN) Hd hr pasN (w_eds (eds_cons h0 (eds_cons h1 (eds_cons h2 (eds_cons h3 eds_nil he4) he3) he2) he) s fun vs G2 H2 y ps => by
    obtain ⟨w0, w1, w2, w3, rfl, p0, p1, p2, p3⟩ := four ps
    cases p0
    exact ⟨G2, door, w1, w2, w3, ks, line, xs, n, rfl, y.gh, ⟨⟨_, p1, ib⟩, ⟨_, p2, il⟩, ⟨_, p3, hs⟩, fair, hz⟩, mis, RD.ext q y⟩) hg (by decide) he hpl
theorem ed_asked {cpus : List Str} (As : CalX X CX0 "_law_asked" ["_law_host_here", "_law_line_so"] k SpAsked) (hr : Room k X.A) (O : Okay cpus ks line) (ha : EV X a σ G (HostF cpus ks)) (hb : ED X b σ G (lD line)) (hg : Gl X "_law_asked" := by rfl)
    (he : starEach [a, b] X.env = (false, eval a X.env) :: starEach [b] X.env := by rfl) (he2 : starEach [b] X.env = (false, eval b X.env) :: starEach [] X.env := by rfl) (hpl : (backTo pos (starEach [b] X.env)).any (·.1) = false := by rfl) :
    ED X (.Call (.Name "_law_asked" p) [a, b] [] pos) σ G (.bool true) := fun H s Q q =>
  wcall (E := eN) As hr pasN (wa (pa_cons pe pa he) (ha H s _ fun v G2 H2 y hh => w_eds (eds_cons (hb.up y.gg) eds_nil he2) y.gh fun vs G3 H3 y3 ps => by
    obtain ⟨u, rfl, h⟩ := ps.one
    exact ⟨G3, v, u, cpus, ks, line, rfl, y3.gh, hh.up y3.gg, h, O, RD.ext q (y.trans y3)⟩)) hg (by decide) he hpl
end
section
variable {P : Program} {w : World} {K : PySem.W.Frag} {mg : Str → Option Value} {base : Heap} {C fI : Addr}
/-- what right calls -/
structure Turns (P : Program) (w : World) (K : PySem.W.Frag) (mg : Str → Option Value) (base : Heap) : Prop where
  take : TakeAt P w K mg base 13
  web : CalN P w K mg base "_law_web" ["_law_urn", "_law_wide_so", "_law_many_so"] 13 SpWeb
  drawn : CalN P w K mg base "_law_drawn" ["_law_urn", "_law_host_here", "_law_most_so"] 13 SpDrawn
  other : CalN P w K mg base "_law_other" ["_law_tags_here"] 13 (PureSp ROther)
  heard : CalN P w K mg base "_law_heard" ["_law_door", "_law_host_here", "_law_line_so", "_law_bits"] 13 SpHeard
  asked : CalN P w K mg base "_law_asked" ["_law_host_here", "_law_line_so"] 13 SpAsked
  same : ∀ n : Nat, n ≤ 10 → CalN P w K mg base "_law_same" ["_law_got", "_law_goal"] 13 (SpSame n)
def SpRight : Sp := fun vs H Q _ => ∃ ua : Addr, vs = [.ref ua] ∧ Urn 0 ua H ∧ ∀ H2, Bar ua H H2 → Q (.bl true) H2
theorem ok_right {f : Addr} {fd : FuncData} (B : Bi mg) (F : Fun K "_law_right" "_law_right" s_law_right f fd) (T : Turns P w K mg base) : FnOk P w K mg base CX0 14 f fd ["_law_urn"] SpRight := by
  refine def_ok F c_law_right (fun vs H Q E h => by obtain ⟨ua, rfl, _⟩ := h; rfl) fun cdv A outer s H E vs Q hr h => ?_
  obtain ⟨ua, rfl, hu, q⟩ := h
  refine b_cons (s_for (G := noG) (List.range 5) (fun k : Nat => PyData.int (k : Int)) (fun c G σ σ2 => ∃ v, Dq G v (.int (c : Nat)) ∧ σ2 = σ.set 1 (some v))
    (fun i σ' G' H' => (∃ x1 x2 x3 x4 x5, σ' = [some (.ref ua), x1, x2, x3, x4, x5, none, none]) ∧ Same G' H' ∧ G' ua = none ∧ Urn (100 * i) ua H' ∧ Bar ua H H')
    PassesOwn.never rfl (ei_range (n := 5) (by decide) B.range ed_int) (noG_same H) (fun G1 H1 y => ⟨⟨none, none, none, none, none, rfl⟩, y.gh, y.out _ hu.ne rfl, hu.up fun o e => y.hh _ _ e, Bar.ext y⟩) (fun i σ' G' H' h => h.2.1) (fun c hc G3 s3 σ' => bnd_name 1 c_law_right.nd) ?_ ?_)
  · rintro i c σ' G' H' G6 H6 σ2 hi ⟨⟨x1, x2, x3, x4, x5, rfl⟩, sg, g1, hu1, bar1⟩ sa y6 ⟨cv, hcv, rfl⟩
    have hi5 : i < 5 := by
      have := (List.getElem?_eq_some_iff.mp hi).1
      simpa using this
    have hu6 := hu1.up fun o e => y6.hh _ _ e
    have g6 := y6.out _ hu1.ne g1
    have bar6 := bar1.trans (Bar.ext y6)
    refine b_cons (s_setV 2 c_law_right.nd (wcall (E := eN) T.web hr pasN (wa (pa_cons pe pa) (w_var 0 rfl (wa (pa_cons pe pa) (w_addI (we pe_int (w_take (low := 4) T.take hr hu6 (by omega) (by decide) (by decide) (fun Q h => w_var 0 rfl h) y6.gh ed_int fun r H7 r0 r1 hu7 bar7 => ⟨1, r, rfl, rfl, wa (pa_cons pe pa_nil) (we pe_int ?_)⟩))))))))
    obtain ⟨j, rfl⟩ := Int.eq_ofNat_of_zero_le r0
    refine ⟨100 * i + 1, ua, 1 + j, by rw [show (1 : Int) + ((j : Nat) : Int) = ((1 + j : Nat) : Int) by omega], by omega, by omega, hu7, by omega, fun cpus ks hv G8 H8 tg kd kne hh g8 s8 hu8 bar8 => ?_⟩
    have bar68 := bar7.trans bar8
    have cok : ∀ c ∈ cpus, sOk c := fun c hc => (tg.nm c hc).ok
    refine b_cons (s_setV 3 c_law_right.nd (wcall (E := eN) T.drawn hr pasN (wa (pa_cons pe pa) (w_var 0 rfl (wa (pa_cons pe pa) (w_var 2 rfl (wa (pa_cons pe pa_nil) (we pe_int ⟨_, ua, G8, hv, cpus, ks, rfl, s8, g8, hh, kd, kne, cok, hu8, by omega, fun line lv G9 H9 dr hlv s89 g9 s9 hu9 bar9 => ?_⟩))))))))
    have O := okay_of tg (by omega) kd dr
    have hh9 := hh.up s89
    have nzy : (show Str from "zy") ∉ line.map (·.1) := fun h => by
      obtain ⟨e, he, e2⟩ := List.mem_map.mp h
      have h3 := dr.pool e he
      rw [e2] at h3
      exact absurd h3 (by decide +kernel)
    refine b_cons (s_set 4 c_law_right.nd (d := .str "zy") (ed_call (E := eN) (ds := [.list ((line.map (·.1)).map .str)]) T.other hr pasN (eds_cons ?_ eds_nil) ⟨_, rfl, nzy, rfl⟩) s9 fun ov G10 H10 y10 hov => ?_)
    · refine ED.to (ed_lc1 6 line prD (fun e => .str e.1) (by have := dr.sz; omega) rfl c_law_right.nd (blk_ok n_law_right (defScope s_law_right) _ _ (by decide +kernel)) (ei_seq rfl (ed_var 3 rfl hlv)) (fun e he G10 s10 u hu s0 H0 C cl fp => ed_ix (i := 0) (ds := [.str e.1, .str e.2]) rfl rfl (ed_var 6 rfl hu) ed_int)) (by rw [List.map_map]; rfl)
    have hh10 := hh9.up y10.gg
    have hlv10 := hlv.up y10.gg
    have mis : missing line ["zy"] = some "zy" := by
      unfold missing
      rw [List.find?_cons, decide_eq_false (show (show Str from "zy") ∉ tasksOf line from nzy)]
      rfl
    cases hov
    refine b_cons (s_lc1 5 7 (List.range 2) (fun k : Nat => PyData.int (k : Int)) (fun _ => ntD "zy") (by decide) rfl c_law_right.nd (blk_ok n_law_right (defScope s_law_right) _ _ (by decide +kernel)) (ei_range (n := 2) (by decide) B.range ed_int) y10.gh (fun k hk G11 s11 u hu s0 H0 C cl fp => ed_heard (sd := .tuple [.str "zy"]) T.heard hr O.fair (book_host O) line_host (xs := ["zy"]) rfl (by decide) mis (ed_var 7 rfl hu) (ed_var 2 rfl (hh10.up s11).dq) (ed_var 3 rfl (hlv10.up s11)) (ed_tup (eds_cons (ed_var 4 rfl (.str "zy")) eds_nil))) fun gv G11 H11 y11 hgv => ?_)
    have y911 := y10.trans y11
    refine b_one (s_if (k := false) (EW.t (ew_or (k := false) (k' := false) (et_not (k := true) (et_val (ed_asked T.asked hr O (ev_var 2 rfl (hh10.up y11.gg)) (ed_var 3 rfl (hlv10.up y11.gg))))) fun _ => ew_or1 (et_not (k := true) (et_val (ed_call (E := eN) (T.same 2 (by decide)) hr pasN (eds_cons (ed_var 5 rfl hgv) (eds_cons (ed_rep (n := 2) (ds := [ntD "zy"]) (by decide) (by show 1 ≤ 100; decide) (ed_lst (eds_cons (ed_lst (eds_cons ed_str (eds_cons (ed_var 4 rfl (.str "zy")) (eds_cons ed_bl eds_nil)))) eds_nil)) (ed_int (i := 2))) eds_nil)) ⟨_, rfl, by decide +kernel, rfl⟩))))) y11.gh (fun h => by cases h) fun _ G12 H12 y12 => b_nil ?_)
    have y912 := y911.trans y12
    have bar912 := bar68.trans (bar9.trans (Bar.ext y912))
    refine ⟨G6, ⟨⟨_, _, _, _, _, rfl⟩, bar912.same y6.gh g6, g6, (hu9.up fun o e => y912.hh _ _ e).more (by omega) (by omega), bar6.trans bar912⟩, Same.refl _⟩
  · rintro σ' G' H' ⟨⟨x1, x2, x3, x4, x5, rfl⟩, sg, g1, hu1, bar1⟩ sa
    exact b_one (s_ret ed_bl sg fun v G2 H2 y hv => by
      cases hv
      exact q H2 (bar1.trans (Bar.ext y)))
end
end Wk
set_option maxHeartbeats 4000000
/-! stepped slices; queue. -/
namespace Wk
open PySem PySem.Spec PyProof.Rows L2 Km PySem.Nt
def stepL {α : Type} (xs : List α) (l : Option Int) : List α := (sliceRange (sliceBounds l none (some 2) xs.length).1 (sliceBounds l none (some 2) xs.length).2.1 (sliceBounds l none (some 2) xs.length).2.2).filterMap (xs[·]?)
theorem vals_pick {xs : List Str} {its : List Value} (r : Vals (xs.map V.str) its) : ∀ idx : List Nat, Vals ((idx.filterMap (xs[·]?)).map V.str) (idx.filterMap (its[·]?))
  | [] => .nil
  | i :: idx => by
    have len : its.length = xs.length := by rw [← r.length, List.length_map]
    cases e : its[i]? with
    | none =>
      have e2 : xs[i]? = none := by
        rw [List.getElem?_eq_none_iff] at e ⊢
        omega
      rw [List.filterMap_cons, List.filterMap_cons, e, e2]
      exact vals_pick r idx
    | some x =>
      obtain ⟨z, t, e2, rfl⟩ := vals_at r e
      rw [List.filterMap_cons, List.filterMap_cons, e, e2]
      exact .cons ⟨t, rfl⟩ (vals_pick r idx)
section
variable {X : Cx} {a : Expr} {σ : L2.St} {G : Hp} {pos p2 p3 : Pos} {lo : Option Expr} {l : Option Int} {j : Nat}
theorem ed_step {xs : List Str} (hz : (stepL xs l).length ≤ 1000) (ha : ED X a σ G (.list (xs.map .str))) (hl : EO X lo σ G l) : ED X (.Subscript a (.Slice lo none (some (.Constant (.int 2) j p3)) p2) pos) σ G (.list ((stepL xs l).map .str)) := by
  intro H sG Q q
  refine ⟨fun pins s I => ?_⟩
  refine Subscript_ (thn ((ha H sG _ (fun v G2 H2 y p => (⟨G2, y, p⟩ : ∃ G2, Ext G H G2 H2 ∧ Dq G2 v (.list (xs.map .str))))).run pins s I) fun v s1 ⟨x, H1, I1, r1, G1, y, p⟩ => ?_)
  refine wpAny_Slice (thn ((po_t lo).run pins s1 σ H1 (fun k H2 => k = l ∧ ∃ G2, Ext G1 H1 G2 H2) I1 ((hl.up y.gg).t y.gh fun G2 H2 y2 => ⟨rfl, G2, y2⟩)) fun vl s2 ⟨l', H2, I2, pl, e2, G2, y2⟩ => ?_)
  rw [evalPart_none]
  refine wpAny_pure ?_
  rw [evalPart_some]
  refine thn (pe_int.run pins s2 σ H2 (fun v H3 => v = .int 2 ∧ H3 = H2) I2 ⟨rfl, rfl⟩) fun vs s3 ⟨x3, H3, I3, r3, e3, e4⟩ => ?_
  subst e2 e3 e4
  obtain ⟨t3, rfl⟩ := r3
  cases p with
  | @lst r us _ h1 h2 =>
    cases DqAll.of_strs h2
    cases r1
    have hat : H3 r = some (.lst (xs.map V.str)) := y2.gh _ _ (y2.gg _ _ h1)
    have I4 : Inv X pins σ H3 { s3 with heap := s3.heap.push { cls := .type "slice", data := .fields #[vl, .none, .int 2 t3] } } := I3.kept (t' := s3.toks) fun b ob q => Heap.get?_push_of_some _ q
    obtain ⟨its, rv, pl', hz'⟩ := I4.list (.of hat)
    have lenI : its.length = xs.length := by rw [← rv.length, List.length_map]
    refine tail_any (ops := [.ref r, .ref s3.heap.objs.size]) pl'.isList.typeIs slot_list_getitem.lookup ?_ (by with_unfolding_all rfl)
    refine wpAny_getItem_list_slice pl'.isList (Heap.IsSliceOf.new ..) pl .none (.int 2 t3) (by simp) ?_ (by rw [List.size_toArray, lenI]; simpa using hz')
    have e : slicePick its.toArray l' none (some 2) = ((sliceRange (sliceBounds l' none (some 2) xs.length).1 (sliceBounds l' none (some 2) xs.length).2.1 (sliceBounds l' none (some 2) xs.length).2.2).filterMap (its[·]?)).toArray := by
      unfold slicePick
      rw [List.size_toArray, lenI]
      simp only [List.getElem?_toArray]
    rw [e]
    refine ⟨.ref _, _, I4.laid (t' := s3.toks) (o := .lst ((stepL xs l').map V.str)) (fun b ob q => Heap.get?_push_of_some _ q) (Nat.le_refl _) ?_, rfl, q _ _ _ ((y.trans y2).trans (Ext.new y2.gh (I4.hok.fresh (Nat.le_refl _)))) (.lst upd_same (DqAll.strs _))⟩
    exact ⟨by rw [List.length_map]; exact Nat.le_trans hz (by decide), _, 0, vals_pick rv _, Heap.get?_push_size _ rfl⟩
end
section
variable {P : Program} {w : World} {K : PySem.W.Frag} {mg : Str → Option Value} {base : Heap}
def queueM (z : Str) : List (Str × Str) := (stepL (Txt.split z " ") none).zip (stepL (Txt.split z " ") (some 1))
def RQueue (ds : List PyData) (d : PyData) : Prop := ∃ z : Str, ds = [.str z] ∧ z ≠ Str.ofString "" ∧ z.length ≤ 1000 ∧ (stepL (Txt.split z " ") none).length ≤ 1000 ∧ (stepL (Txt.split z " ") (some 1)).length ≤ 1000 ∧ d = lD (queueM z)
theorem ok_queue {f : Addr} {fd : FuncData} (B : Bi mg) (F : Fun K "_law_queue" "_law_queue" s_law_queue f fd) : FnOk P w K mg base CX0 1 f fd ["_law_flat"] (PureSp RQueue) := by
  refine pure_ok F c_law_queue (fun ds d h => by obtain ⟨z, rfl, _⟩ := h; rfl) fun cdv A outer s H E G vs ds d Q hr sG hv hR q => ?_
  obtain ⟨z, rfl, ne, hz, h1, h2, rfl⟩ := hR
  obtain ⟨v, rfl, hv1⟩ := hv.one
  refine b_cons (s_set 1 c_law_queue.nd (d := .list ((Txt.split z " ").map .str)) (ed_if (k := true) (ET.to (et_neS (ed_var 0 rfl hv1) ed_str) (by rw [decide_eq_false ne]; rfl)) (fun _ => ed_split (by decide) (by omega) (ed_var 0 rfl hv1) ed_str) fun h => by cases h) sG fun wv G1 H1 y1 hw => ?_)
  exact b_one (s_ret (ed_tupzip rfl h1 B.tuple B.zip (ed_step h1 (ed_var 1 rfl hw) eo_none) (ed_step h2 (ed_var 1 rfl hw) (eo_some (ed_int (i := 1))))) y1.gh (RD.ext q y1))
end
end Wk
set_option maxHeartbeats 4000000
/-! what is asked by hand. -/
namespace Wk
open PySem PySem.Spec PyProof.Rows L2 Km PySem.Nt
theorem pSort_of {g g' : List (Str × Str)} (p : g'.Perm g) (h : Asc (g'.map (·.1))) : pSort g = g' := by
  rw [← pSort_uniq p]
  have e := dSort_is (.refl (g'.map prD)) (by
    rw [List.pairwise_map]
    unfold Asc at h
    rw [List.pairwise_map] at h
    exact h.imp fun {a b} h => row_lt (a := (a.1, .str a.2)) (b := (b.1, .str b.2)) h) fun a ha b hb e => by
      obtain ⟨x, _, rfl⟩ := List.mem_map.mp ha
      obtain ⟨y, _, rfl⟩ := List.mem_map.mp hb
      rw [toks_pr e]
  rw [pSort_eq] at e
  exact map_prD_inj e
end Wk
set_option maxHeartbeats 4000000
/-! the law's own def. -/
namespace Wk
open PySem PySem.Spec PyProof.Rows L2 Km PySem.Nt
section
variable {X : Cx} {σ : L2.St} {G : Hp} {p pos : Pos} {k : Nat}
def SpYes : Sp := fun vs H Q _ => vs = [] ∧ ∀ H2, Same H H2 → Q (.bl true) H2
theorem ed_yes {x : Str} (C : CalX X CX0 x [] k SpYes) (hr : Room k X.A) (hg : Gl X x := by rfl) (hdb : (x == ("__debug__" : Str)) = false := by decide) : ED X (.Call (.Name x p) [] [] pos) σ G (.bool true) := fun H s Q q => by
  obtain ⟨f, fd, F, hm, hk, hb⟩ := C.ex
  exact we (pe_call0 (E := eN) F hr hg hm hk hb .nil pasN hdb) ⟨rfl, fun H2 s2 => q _ G H2 ⟨Same.refl _, s2, s.trans s2, fun b _ h => h⟩ (.bl true)⟩
end
section
variable {P : Program} {w : World} {K : PySem.W.Frag} {mg : Str → Option Value} {base : Heap}
def SpLaw (K : PySem.W.Frag) : Sp := fun vs H Q _ => ∃ (ra : Addr) (ns : List Int), vs = [.ref ra] ∧ SqL K H ra (ns.map V.int) ∧ ns.length ≤ 63 ∧ ∀ H2, Q (.bl true) H2
theorem ok_law {f : Addr} {fd : FuncData} (B : Bi mg) (F : Fun K "law" "law" slaw f fd) (Ce : CalN P w K mg base "_law_cells" ["_law_script", "_law_top"] 15 (SpCells K)) (Bh : CalN P w K mg base "_law_by_hand_right" [] 15 SpYes) (Ri : CalN P w K mg base "_law_right" ["_law_urn"] 15 SpRight) (Bo : CalN P w K mg base "_law_box" ["_law_script", "_law_k"] 15 SpBox) : FnOk P w K mg base CX0 16 f fd ["_law_script"] (SpLaw K) := by
  refine def_ok F claw (fun vs H Q E h => by obtain ⟨ra, ns, rfl, _⟩ := h; rfl) fun cdv A outer s H E vs Q hr h => ?_
  obtain ⟨ra, ns, rfl, hq, hn, q⟩ := h
  refine b_cons (s_setV 1 claw.nd (wcall (E := eN) Ce hr pasN (wa (pa_cons pe pa) (w_var 0 rfl (wa (pa_cons pe pa_nil) (we pe_int ⟨ra, ns, rfl, hq, hn, fun r H2 ms s2 hr0 hr2 m1 m3 => ?_⟩))))))
  have s3 : Same (oneG r (.lst (ms.map V.int))) H2 := fun b o e => by
    unfold oneG at e
    by_cases z : b = r
    · rw [if_pos z] at e
      rw [z, hr2]
      exact e
    · rw [if_neg z] at e
      cases e
  have hv : Dq (oneG r (.lst (ms.map V.int))) (.ref r) (.list (ms.map .int)) := .lst oneG_at (DqAll.ints ms)
  refine b_one (s_ret (d := .bool true) (ed_and (k := true) (ed_yes Bh hr) (fun _ => ed_one ?_) fun h => by cases h) s3 fun v G3 H3 y h => by cases h; exact q H3)
  refine ED.to (ed_all (bs := ms.map fun _ => true) rfl B.all ?_) (by simp)
  refine ED.to (ed_lc1 2 (List.range ms.length) (fun k : Nat => PyData.int (k : Int)) (fun _ => .bool true) (by rw [List.length_range]; omega) rfl claw.nd (blk_ok nlaw (defScope slaw) _ _ (by decide +kernel)) (ei_range (n := ms.length) (by omega) B.range (ED.to (ed_len rfl B.len (ed_var 1 rfl hv)) (by rw [List.length_map]))) ?_) (by rw [List.map_map]; congr 1; apply List.ext_getElem <;> simp)
  intro k hk G4 s4 u hu s0 H0 C cl fp
  cases hu
  refine fun H5 s5 Q5 q5 => wcall (E := eN) Ri hr pasN (wa (pa_cons pe pa_nil) (wcall (E := eN) Bo hr pasN (wa (pa_cons pe pa) (w_var 1 rfl (wa (pa_cons pe pa_nil) (w_var 2 rfl ⟨G4, _, ms, k, rfl, s5, hv.up s4, by simpa using hk, by have := List.mem_range.mp hk; omega, fun ua H6 s6 hu6 o ho => ⟨ua, rfl, ho _ upd_same, fun H7 bar => ?_⟩⟩))))))
  have s57 : Same H5 H7 := fun b o e => by
    have e6 := s6 b o e
    have ne : b ≠ ua := ne_of_none e6 hu6
    exact bar b o ne (by rw [upd_ne ne]; exact e6)
  exact q5 _ G4 H7 ⟨Same.refl _, s57, s5.trans s57, fun b _ h => h⟩ (.bl true)
end
end Wk
set_option maxHeartbeats 4000000
/-! the hosts and lines that are asked by hand. -/
namespace Wk
open PySem PySem.Spec PyProof.Rows L2 Km PySem.Nt
abbrev Ks := List (Str × List Str)
abbrev Ln := List (Str × Str)
def cpA : List Str := ["p", "q", "r"]
def ksA : Ks := [("big", ["p", "q"]), ("io", ["q"]), ("net", ["q", "r"])]
def lnA : Ln := [("t", "big"), ("u", "io"), ("v", "net"), ("w", "io")]
def cpF : List Str := ["a", "b", "c", "d", "e", "f"]
def ksF : Ks := [("k", ["a"]), ("l", ["a", "b"]), ("m", ["b", "c"]), ("n", ["c", "d"]), ("o", ["d", "e"]), ("x", ["e", "f"])]
def lnF : Ln := [("t", "x"), ("u", "o"), ("v", "n"), ("w", "m"), ("y", "l"), ("z", "k"), ("s", "k"), ("g", "x")]
def cpO : List Str := ["p", "q"]
def ksO : Ks := [("a", ["p", "q"])]
def lnO : Ln := [("t", "a"), ("u", "a"), ("v", "a")]
def psA : List Str := ["big p q", "io q", "net q r"]
def psF : List Str := ["k a", "l a b", "m b c", "n c d", "o d e", "x e f"]
def psO : List Str := ["a p q"]
theorem flatA : Flat "p q r | big p q | io q | net q r" cpA ksA where
  cut := ⟨"p q r", psA, by decide +kernel, by decide +kernel, by decide +kernel, by decide +kernel, by decide +kernel⟩
  asc := by unfold Asc; decide +kernel
  asck := by unfold Asc; decide +kernel
  ascm := by unfold Asc; decide +kernel
  sz := by decide +kernel
  szc := by decide +kernel
  szk := by decide +kernel
  szm := by decide +kernel
theorem flatF : Flat "a b c d e f | k a | l a b | m b c | n c d | o d e | x e f" cpF ksF where
  cut := ⟨"a b c d e f", psF, by decide +kernel, by decide +kernel, by decide +kernel, by decide +kernel, by decide +kernel⟩
  asc := by unfold Asc; decide +kernel
  asck := by unfold Asc; decide +kernel
  ascm := by unfold Asc; decide +kernel
  sz := by decide +kernel
  szc := by decide +kernel
  szk := by decide +kernel
  szm := by decide +kernel
theorem flatO : Flat "p q | a p q" cpO ksO where
  cut := ⟨"p q", psO, by decide +kernel, by decide +kernel, by decide +kernel, by decide +kernel, by decide +kernel⟩
  asc := by unfold Asc; decide +kernel
  asck := by unfold Asc; decide +kernel
  ascm := by unfold Asc; decide +kernel
  sz := by decide +kernel
  szc := by decide +kernel
  szk := by decide +kernel
  szm := by decide +kernel
theorem queueA : queueM "t big u io v net w io" = lnA := by decide +kernel
theorem queueF : queueM "t x u o v n w m y l z k s k g x" = lnF := by decide +kernel
theorem queueO : queueM "t a u a v a" = lnO := by decide +kernel
theorem nm_all {xs : List Str} (h : ∀ t ∈ xs, 1 ≤ t.length ∧ t.length ≤ 8 ∧ ∀ c ∈ t.cps.toList, c ∈ letters) : ∀ t ∈ xs, Nm t := fun t ht => ⟨(h t ht).1, (h t ht).2.1, (h t ht).2.2⟩
theorem fair_of {ks : Ks} {ln : Ln} (h1 : (ks.map (·.1)).Nodup) (h2 : (ln.map (·.1)).Nodup) (h3 : ∀ e ∈ ln, e.2 ∈ ks.map (·.1)) (h4 : ln.length ≤ 1000) : Fair ks ln := ⟨h1, h2, h3, h4⟩
theorem fairA : Fair ksA lnA := ⟨by decide +kernel, by decide +kernel, by decide +kernel, by decide⟩
theorem fairF : Fair ksF lnF := ⟨by decide +kernel, by decide +kernel, by decide +kernel, by decide⟩
theorem fairO : Fair ksO lnO := ⟨by decide +kernel, by decide +kernel, by decide +kernel, by decide⟩
theorem okA : Okay cpA ksA lnA where
  fair := fairA
  sub := by decide +kernel
  u6 := by decide
  nmc := nm_all (by decide +kernel)
  nmt := fun e he => nm_all (xs := lnA.map (·.1)) (by decide +kernel) e.1 (List.mem_map.mpr ⟨e, he, rfl⟩)
  m6 := by decide +kernel
  k6 := by decide +kernel
  ks6 := by decide
  l5 := by decide
end Wk
set_option maxHeartbeats 4000000
/-! answers at the given hosts. -/
namespace Wk
open PySem PySem.Spec PyProof.Rows L2 Km PySem.Nt
theorem gnd_of {ks : Ks} {ln : Ln} {U : List Str} (sub : ∀ e ∈ ks, ∀ c ∈ e.2, c ∈ U) (sz : U.length ≤ 1000) : Ground ks ln U := ⟨fun t c hc => by
  unfold mayOf maskOf at hc
  cases e : ks.find? fun e => decide (e.1 = kindOf ln t) with
  | none => rw [e] at hc; simp at hc
  | some x =>
    rw [e] at hc
    exact sub x (List.mem_of_find?_eq_some e) c hc, sz⟩
theorem gndA : Ground ksA lnA cpA := gnd_of (by decide +kernel) (by decide)
theorem gndF (ln : Ln) : Ground ksF ln cpF := gnd_of (by decide +kernel) (by decide)
theorem gndO : Ground ksO lnO cpO := gnd_of (by decide +kernel) (by decide)
theorem asksA {xs : List Str} (h1 : xs.Nodup) (h2 : ∀ x ∈ xs, x ∈ lnA.map (·.1)) (h3 : xs.length ≤ 1000) : Asks ksA lnA cpA xs := ⟨gndA, by decide, h1, h2, h3⟩
theorem asksF {ln : Ln} {xs : List Str} (h1 : xs.Nodup) (h2 : ∀ x ∈ xs, x ∈ ln.map (·.1)) (h3 : xs.length ≤ 1000) : Asks ksF ln cpF xs := ⟨gndF ln, by decide, h1, h2, h3⟩
theorem asksO {xs : List Str} (h1 : xs.Nodup) (h2 : ∀ x ∈ xs, x ∈ lnO.map (·.1)) (h3 : xs.length ≤ 1000) : Asks ksO lnO cpO xs := ⟨gndO, by decide, h1, h2, h3⟩
/-- what is asked of A -/
def lotsA : List (List Str × Bool) := [([], true), (["t"], true), (["t", "u"], true), (["u", "w"], false), (["t", "u", "v"], true), (["t", "u", "w"], false), (["t", "v", "w"], true), (["t", "u", "v", "w"], false), (["u", "v"], true)]
theorem lotsA_ok : ∀ e ∈ lotsA, (matchM (mayOf ksA lnA) 8 e.1 []).isSome = e.2 ∧ e.1.Nodup ∧ (∀ x ∈ e.1, x ∈ lnA.map (·.1)) ∧ e.1.length ≤ 1000 := by decide +kernel
theorem seats_of {m : Option Ln} {g g' : Ln} (h : m = some g) (p : g'.Perm g) (a : Asc (g'.map (·.1))) : seatsD m = rD g' := by
  rw [h]
  show PyData.tuple ((pSort g).map prD) = _
  rw [pSort_of p a]
  rfl
theorem mostA : (mostM (mayOf ksA lnA) 8 (tasksOf lnA) []).1 = 3 := by decide +kernel
theorem mostF : (mostM (mayOf ksF lnF) 8 (tasksOf lnF) []).1 = 6 := by decide +kernel
end Wk
set_option maxHeartbeats 4000000
/-! by hand. -/
namespace Wk
open PySem PySem.Spec PyProof.Rows L2 Km PySem.Nt
section
variable {X : Cx} {σ : L2.St} {G : Hp} {p pos p3 : Pos} {k : Nat}
theorem ev_host {z : Str} {j : Nat} {cpus : List Str} {ks : Ks} (Ho : CalX X CX0 "_law_host" ["_law_flat"] k SpHost) (hr : Room k X.A) (fl : Flat z cpus ks) (hg : Gl X "_law_host" := by rfl)
    (he : starEach [.Constant (.str z) j p3] X.env = (false, eval (.Constant (.str z) j p3) X.env) :: starEach [] X.env := by rfl) (hpl : (backTo pos (starEach [] X.env)).any (·.1) = false := by rfl) : EV X (.Call (.Name "_law_host" p) [.Constant (.str z) j p3] [] pos) σ G (HostF cpus ks) := fun H s Q q =>
  wcall (E := eN) Ho hr pasN (wa (pa_cons pe pa_nil he) (we pe_str ⟨G, z, cpus, ks, rfl, s, fl, fun v G2 H2 y h => q v G2 H2 y h⟩)) hg (by decide) he hpl
theorem ed_queue {z : Str} {j : Nat} {ln : Ln} (Qu : CalX X CX0 "_law_queue" ["_law_flat"] k (PureSp RQueue)) (hr : Room k X.A) (e : queueM z = ln) (h1 : z ≠ Str.ofString "") (h2 : z.length ≤ 1000) (h3 : (stepL (Txt.split z " ") none).length ≤ 1000) (h4 : (stepL (Txt.split z " ") (some 1)).length ≤ 1000) (hg : Gl X "_law_queue" := by rfl)
    (he : starEach [.Constant (.str z) j p3] X.env = (false, eval (.Constant (.str z) j p3) X.env) :: starEach [] X.env := by rfl) (hpl : (backTo pos (starEach [] X.env)).any (·.1) = false := by rfl) : ED X (.Call (.Name "_law_queue" p) [.Constant (.str z) j p3] [] pos) σ G (lD ln) :=
  ed_call (E := eN) Qu hr pasN (eds_cons ed_str eds_nil he) ⟨z, rfl, h1, h2, h3, h4, by rw [e]⟩ hg (by decide) he hpl
end
end Wk
set_option maxHeartbeats 4000000
/-! by hand. -/
namespace Wk
open PySem PySem.Spec PyProof.Rows L2 Km PySem.Nt
def lnM : Ln := [("y", "l"), ("z", "k"), ("s", "k"), ("g", "x")]
theorem okF : Okay cpF ksF lnM where
  fair := ⟨by decide +kernel, by decide +kernel, by decide +kernel, by decide⟩
  sub := by decide +kernel
  u6 := by decide
  nmc := nm_all (by decide +kernel)
  nmt := fun e he => nm_all (xs := lnM.map (·.1)) (by decide +kernel) e.1 (List.mem_map.mpr ⟨e, he, rfl⟩)
  m6 := by decide +kernel
  k6 := by decide +kernel
  ks6 := by decide
  l5 := by decide
section
variable {P : Program} {w : World} {K : PySem.W.Frag} {mg : Str → Option Value} {base : Heap} {C fI : Addr}
structure Hands (P : Program) (w : World) (K : PySem.W.Frag) (mg : Str → Option Value) (base : Heap) (C : Addr) (k : Nat) : Prop where
  can : Cal P w K mg base (L2.CX P w) "can_seat" ["book", "ready", "some"] k (SpCan C)
  sea : Cal P w K mg base (L2.CX P w) "a_seating" ["book", "ready", "some"] k (SpSeating C)
  most : CalN P w K mg base "most_seated" ["book", "ready"] k SpMost
  same : ∀ n : Nat, n ≤ 10 → CalN P w K mg base "_law_same" ["_law_got", "_law_goal"] k (SpSame n)
  lists : ∀ n : Nat, n ≤ 10 → CalN P w K mg base "_law_lists" ["_law_thing_so"] k (SpLists n)
  host : CalN P w K mg base "_law_host" ["_law_flat"] k SpHost
  queue : CalN P w K mg base "_law_queue" ["_law_flat"] k (PureSp RQueue)
  heard : CalN P w K mg base "_law_heard" ["_law_door", "_law_host_here", "_law_line_so", "_law_bits"] k SpHeard
  asked : CalN P w K mg base "_law_asked" ["_law_host_here", "_law_line_so"] k SpAsked
def RAlike (ds : List PyData) (d : PyData) : Prop := ds = [hostD cpA ksA, lD lnA] ∧ d = .bool true
def lnD : Ln := [("t", "x"), ("g", "x")]
theorem fairD : Fair ksF lnD := ⟨by decide +kernel, by decide +kernel, by decide +kernel, by decide⟩
theorem mostD : (mostM (mayOf ksF lnD) 8 (tasksOf lnD) []).1 = 2 := by decide +kernel
def fin2 : List PyData := [.list (lotsA.map fun e => .bool e.2), rD [("p", "t"), ("q", "u")]]
def fin3 : List PyData := [.list (lotsA.map fun e => .bool e.2), rD [("p", "t"), ("q", "u")], .none]
def fin5 : List PyData := [.list (lotsA.map fun e => .bool e.2), rD [("p", "t"), ("q", "u")], .none, rD [], rD [("p", "t"), ("q", "u"), ("r", "v")]]
def fin7 : List PyData := [.list (lotsA.map fun e => .bool e.2), rD [("p", "t"), ("q", "u")], .none, rD [], rD [("p", "t"), ("q", "u"), ("r", "v")], .int 3, .int 0]
def fin9 : List PyData := [.list (lotsA.map fun e => .bool e.2), rD [("p", "t"), ("q", "u")], .none, rD [], rD [("p", "t"), ("q", "u"), ("r", "v")], .int 3, .int 0, rD [("a", "z"), ("b", "y"), ("c", "w"), ("d", "v"), ("e", "u"), ("f", "t")], .int 6]
def fin10 : List PyData := [.list (lotsA.map fun e => .bool e.2), rD [("p", "t"), ("q", "u")], .none, rD [], rD [("p", "t"), ("q", "u"), ("r", "v")], .int 3, .int 0, rD [("a", "z"), ("b", "y"), ("c", "w"), ("d", "v"), ("e", "u"), ("f", "t")], .int 6, .bool false]
def fin11 : List PyData := [.list (lotsA.map fun e => .bool e.2), rD [("p", "t"), ("q", "u")], .none, rD [], rD [("p", "t"), ("q", "u"), ("r", "v")], .int 3, .int 0, rD [("a", "z"), ("b", "y"), ("c", "w"), ("d", "v"), ("e", "u"), ("f", "t")], .int 6, .bool false, .bool true]
def fin12 : List PyData := [.list (lotsA.map fun e => .bool e.2), rD [("p", "t"), ("q", "u")], .none, rD [], rD [("p", "t"), ("q", "u"), ("r", "v")], .int 3, .int 0, rD [("a", "z"), ("b", "y"), ("c", "w"), ("d", "v"), ("e", "u"), ("f", "t")], .int 6, .bool false, .bool true, .bool false]
def fin13 : List PyData := [.list (lotsA.map fun e => .bool e.2), rD [("p", "t"), ("q", "u")], .none, rD [], rD [("p", "t"), ("q", "u"), ("r", "v")], .int 3, .int 0, rD [("a", "z"), ("b", "y"), ("c", "w"), ("d", "v"), ("e", "u"), ("f", "t")], .int 6, .bool false, .bool true, .bool false, .int 2]
def tupS (xs : List Str) : PyData := .tuple (xs.map .str)
theorem ok_by_hand {f : Addr} {fd : FuncData} (B : Bi mg) (F : Fun K "_law_by_hand_right" "_law_by_hand_right" s_law_by_hand_right f fd) (D : Hands P w K mg base C 14) (Al : CalN P w K mg base "_law_alike_right" ["_law_host_here", "_law_line_so"] 14 (PureSp RAlike)) : FnOk P w K mg base CX0 15 f fd [] SpYes := by
  refine def_ok F c_law_by_hand_right (fun vs H Q E h => by obtain ⟨rfl, _⟩ := h; rfl) fun cdv A outer s H E vs Q hr h => ?_
  obtain ⟨rfl, q⟩ := h
  refine b_cons (s_pair 0 1 rfl c_law_by_hand_right.nd (w_ev (ev_host D.host hr flatA) (noG_same H) fun hv G1 H1 y1 hh => w_ed (ed_queue D.queue hr queueA (by decide +kernel) (by decide +kernel) (by decide +kernel) (by decide +kernel)) y1.gh fun lv G2 H2 y2 hl => fun r hr2 => ?_))
  have x2 := Ext.grow (o := .tup [hv, lv]) (y1.trans y2) hr2
  change WB _ _ _ [some hv, some lv, none, none, none, none, none, none] _
  generalize upd H2 r (.tup [hv, lv]) = H3 at x2
  have hh2 := hh.up y2.gg
  refine b_cons (s_set 2 c_law_by_hand_right.nd (d := .list [tupS [], tupS ["t"], tupS ["t", "u"], tupS ["u", "w"], tupS ["t", "u", "v"], tupS ["t", "u", "w"], tupS ["t", "v", "w"]]) (ed_lst (eds_cons (ed_tup eds_nil) (eds_cons (ed_tup (eds_cons ed_str eds_nil)) (eds_cons (ed_tup (eds_cons ed_str (eds_cons ed_str eds_nil))) (eds_cons (ed_tup (eds_cons ed_str (eds_cons ed_str eds_nil))) (eds_cons (ed_tup (eds_cons ed_str (eds_cons ed_str (eds_cons ed_str eds_nil)))) (eds_cons (ed_tup (eds_cons ed_str (eds_cons ed_str (eds_cons ed_str eds_nil)))) (eds_cons (ed_tup (eds_cons ed_str (eds_cons ed_str (eds_cons ed_str eds_nil)))) eds_nil)))))))) x2.gh fun kv G4 H4 y4 hk => ?_)
  have x4 := x2.trans y4
  change WB _ _ _ [some hv, some lv, some kv, none, none, none, none, none] _
  refine b_cons (s_set 2 c_law_by_hand_right.nd (d := .list (lotsA.map fun e => tupS e.1)) (ed_catL (ds := [tupS [], tupS ["t"], tupS ["t", "u"], tupS ["u", "w"], tupS ["t", "u", "v"], tupS ["t", "u", "w"], tupS ["t", "v", "w"]]) (es' := [tupS ["t", "u", "v", "w"], tupS ["u", "v"]]) (by decide) (ed_var 2 rfl hk) (ed_lst (eds_cons (ed_tup (eds_cons ed_str (eds_cons ed_str (eds_cons ed_str (eds_cons ed_str eds_nil))))) (eds_cons (ed_tup (eds_cons ed_str (eds_cons ed_str eds_nil))) eds_nil)))) y4.gh fun kv5 G5 H5 y5 hk5 => ?_)
  have x5 := x4.trans y5
  change WB _ _ _ [some hv, some lv, some kv5, none, none, none, none, none] _
  have hh5 := hh2.up (y4.gg.trans y5.gg)
  have hl5 := hl.up (y4.gg.trans y5.gg)
  have ib := book_host okA
  have il := line_host (line := lnA)
  refine b_cons (s_set 3 c_law_by_hand_right.nd (d := .list [.list (lotsA.map fun e => .bool e.2), rD [("p", "t"), ("q", "u")]]) (ed_lst (eds_cons (ed_lc1 7 lotsA (fun e => tupS e.1) (fun e => .bool e.2) (by decide) rfl c_law_by_hand_right.nd (blk_ok n_law_by_hand_right (defScope s_law_by_hand_right) _ _ (by decide +kernel)) (ei_seq rfl (ed_var 2 rfl hk5)) (fun e he G6 s6 u hu s0 H0 C cl fp => ED.to (ed_can D.can hr fairA (asksA (lotsA_ok e he).2.1 (lotsA_ok e he).2.2.1 (lotsA_ok e he).2.2.2) ib il rfl (ed_var 0 rfl (hh5.up s6).dq) (ed_var 1 rfl (hl5.up s6)) (ed_var 7 rfl hu)) (by rw [(lotsA_ok e he).1]))) (eds_cons (ED.to (ed_seating (sd := tupS ["t", "u"]) (r := ["t", "u"]) D.sea hr fairA (asksA (by decide +kernel) (by decide +kernel) (by decide)) ib il rfl (ed_var 0 rfl hh5.dq) (ed_var 1 rfl hl5) (ed_tup (eds_cons ed_str (eds_cons ed_str eds_nil)))) ?_) eds_nil))) x5.gh fun gv G6 H6 y6 hg => ?_)
  · exact seats_of (g := [("p", "t"), ("q", "u")]) (by decide +kernel) (.refl _) (by unfold Asc; decide +kernel)
  replace hg : Dq G6 gv (.list fin2) := hg
  have x6 := x5.trans y6
  change WB _ _ _ [some hv, some lv, some kv5, some gv, none, none, none, none] _
  have hh6 := hh5.up y6.gg
  have hl6 := hl5.up y6.gg
  refine b_cons (s_set 3 c_law_by_hand_right.nd (d := .list fin3) (ED.to (ed_catL (es' := [.none]) (by decide) (ed_var 3 rfl hg) (ed_lst (eds_cons (ED.to (ed_seating (sd := tupS ["u", "w"]) (r := ["u", "w"]) D.sea hr fairA (asksA (by decide +kernel) (by decide +kernel) (by decide)) ib il rfl (ed_var 0 rfl hh6.dq) (ed_var 1 rfl hl6) (ed_tup (eds_cons ed_str (eds_cons ed_str eds_nil)))) ?_) eds_nil))) rfl) x6.gh fun gv7 G7 H7 y7 hg7 => ?_)
  · rw [show matchM (mayOf ksA lnA) 8 ["u", "w"] [] = none by decide +kernel]
    rfl
  have x7 := x6.trans y7
  change WB _ _ _ [some hv, some lv, some kv5, some gv7, none, none, none, none] _
  have hh7 := hh6.up y7.gg
  have hl7 := hl6.up y7.gg
  refine b_cons (s_set 4 c_law_by_hand_right.nd (d := .list [.list (lotsA.map fun e => .bool e.2), rD [("p", "t"), ("q", "u")], .none]) (ed_lst (eds_cons (ed_lst (eds_cons ed_bl (eds_cons ed_bl (eds_cons ed_bl (eds_cons ed_bl (eds_cons ed_bl (eds_cons ed_bl (eds_cons ed_bl (eds_cons ed_bl (eds_cons ed_bl eds_nil)))))))))) (eds_cons (ed_tup (eds_cons (ed_tup (eds_cons ed_str (eds_cons ed_str eds_nil))) (eds_cons (ed_tup (eds_cons ed_str (eds_cons ed_str eds_nil))) eds_nil))) (eds_cons ed_non eds_nil)))) x7.gh fun ov8 G8 H8 y8 ho8 => ?_)
  replace ho8 : Dq G8 ov8 (.list fin3) := ho8
  have x8 := x7.trans y8
  change WB _ _ _ [some hv, some lv, some kv5, some gv7, some ov8, none, none, none] _
  have hh8 := hh7.up y8.gg
  have hl8 := hl7.up y8.gg
  have hg8 := hg7.up y8.gg
  refine b_cons (s_set 3 c_law_by_hand_right.nd (d := .list fin5) (ED.to (ed_catL (es' := [rD [], rD [("p", "t"), ("q", "u"), ("r", "v")]]) (by decide) (ed_var 3 rfl hg8) (ed_lst (eds_cons (ED.to (ed_seating (sd := tupS []) (r := []) D.sea hr fairA (asksA (by decide +kernel) (by decide +kernel) (by decide)) ib il rfl (ed_var 0 rfl hh8.dq) (ed_var 1 rfl hl8) (ed_tup eds_nil)) ?_) (eds_cons (ED.to (ed_seating (sd := tupS ["t", "u", "v"]) (r := ["t", "u", "v"]) D.sea hr fairA (asksA (by decide +kernel) (by decide +kernel) (by decide)) ib il rfl (ed_var 0 rfl hh8.dq) (ed_var 1 rfl hl8) (ed_tup (eds_cons ed_str (eds_cons ed_str (eds_cons ed_str eds_nil))))) ?_) eds_nil)))) rfl) x8.gh fun gv9 G9 H9 y9 hg9 => ?_)
  · exact seats_of (g := []) (by decide +kernel) (.refl _) (by unfold Asc; decide +kernel)
  · exact seats_of (g := [("p", "t"), ("q", "u"), ("r", "v")]) (by decide +kernel) (.refl _) (by unfold Asc; decide +kernel)
  have x9 := x8.trans y9
  change WB _ _ _ [some hv, some lv, some kv5, some gv9, some ov8, none, none, none] _
  have hh9 := hh8.up y9.gg
  have hl9 := hl8.up y9.gg
  have ho9 := ho8.up y9.gg
  refine b_cons (s_set 3 c_law_by_hand_right.nd (d := .list fin7) (ED.to (ed_catL (es' := [.int 3, .int 0]) (by decide) (ed_var 3 rfl hg9) (ed_lst (eds_cons (ED.to (ed_most D.most hr fairA gndA (by decide) ib il (ed_var 0 rfl hh9.dq) (ed_var 1 rfl hl9)) (by rw [mostA]; rfl)) (eds_cons (ED.to (ed_most (line := []) (ks := ksA) (U := cpA) (ld := lD []) D.most hr ⟨fairA.kinds, by simp, fun e he => by simp at he, by simp⟩ (gnd_of (by decide +kernel) (by decide)) (by decide) ib line_host (ed_var 0 rfl hh9.dq) (ed_tup eds_nil)) rfl) eds_nil)))) rfl) x9.gh fun gv10 G10 H10 y10 hg10 => ?_)
  have x10 := x9.trans y10
  change WB _ _ _ [some hv, some lv, some kv5, some gv10, some ov8, none, none, none] _
  refine b_cons (s_set 4 c_law_by_hand_right.nd (d := .list fin7) (ED.to (ed_catL (es' := [rD [], rD [("p", "t"), ("q", "u"), ("r", "v")], .int 3, .int 0]) (by decide) (ed_var 4 rfl (ho9.up y10.gg)) (ed_lst (eds_cons (ed_tup eds_nil) (eds_cons (ed_tup (eds_cons (ed_tup (eds_cons ed_str (eds_cons ed_str eds_nil))) (eds_cons (ed_tup (eds_cons ed_str (eds_cons ed_str eds_nil))) (eds_cons (ed_tup (eds_cons ed_str (eds_cons ed_str eds_nil))) eds_nil)))) (eds_cons ed_int (eds_cons ed_int eds_nil)))))) rfl) x10.gh fun ov11 G11 H11 y11 ho11 => ?_)
  have x11 := x10.trans y11
  change WB _ _ _ [some hv, some lv, some kv5, some gv10, some ov11, none, none, none] _
  refine b_cons (s_setE (R := HostF cpF ksF) 5 c_law_by_hand_right.nd (ev_host D.host hr flatF) x11.gh fun fv G12 H12 y12 hf12 => ?_)
  refine b_cons (s_set 6 c_law_by_hand_right.nd (d := lD lnF) (ed_queue D.queue hr queueF (by decide +kernel) (by decide +kernel) (by decide +kernel) (by decide +kernel)) y12.gh fun dv G13 H13 y13 hd13 => ?_)
  have x13 := (x11.trans y12).trans y13
  change WB _ _ _ [some hv, some lv, some kv5, some gv10, some ov11, some fv, some dv, none] _
  have ibF : IsBook (hostD cpF ksF) ksF := book_host okF
  have hf13 := hf12.up y13.gg
  have hg13 := (hg10.up y11.gg).up (y12.gg.trans y13.gg)
  have ho13 := (ho11.up y12.gg).up y13.gg
  have ilF := line_host (line := lnF)
  refine b_cons (s_set 3 c_law_by_hand_right.nd (d := .list fin9) (ED.to (ed_catL (es' := [rD [("a", "z"), ("b", "y"), ("c", "w"), ("d", "v"), ("e", "u"), ("f", "t")], .int 6]) (by decide) (ed_var 3 rfl hg13) (ed_lst (eds_cons (ED.to (ed_seating (sd := tupS ["t", "u", "v", "w", "y", "z"]) (r := ["t", "u", "v", "w", "y", "z"]) D.sea hr fairF (asksF (by decide +kernel) (by decide +kernel) (by decide)) ibF ilF rfl (ed_var 5 rfl hf13.dq) (ed_var 6 rfl hd13) (ed_tup (eds_cons ed_str (eds_cons ed_str (eds_cons ed_str (eds_cons ed_str (eds_cons ed_str (eds_cons ed_str eds_nil)))))))) ?_) (eds_cons (ED.to (ed_most D.most hr fairF (gndF lnF) (by decide) ibF ilF (ed_var 5 rfl hf13.dq) (ed_var 6 rfl hd13)) (by rw [mostF]; rfl)) eds_nil)))) rfl) x13.gh fun gv14 G14 H14 y14 hg14 => ?_)
  · exact seats_of (g := [("e", "u"), ("d", "v"), ("c", "w"), ("b", "y"), ("a", "z"), ("f", "t")]) (by decide +kernel) (by decide +kernel) (by unfold Asc; decide +kernel)
  have x14 := x13.trans y14
  change WB _ _ _ [some hv, some lv, some kv5, some gv14, some ov11, some fv, some dv, none] _
  have hf14 := hf13.up y14.gg
  have hd14 := hd13.up y14.gg
  refine b_cons (s_set 3 c_law_by_hand_right.nd (d := .list fin10) (ED.to (ed_catL (es' := [.bool false]) (by decide) (ed_var 3 rfl hg14) (ed_lst (eds_cons (ED.to (ed_can (sd := tupS ["s", "z"]) (r := ["s", "z"]) D.can hr fairF (asksF (by decide +kernel) (by decide +kernel) (by decide)) ibF ilF rfl (ed_var 5 rfl hf14.dq) (ed_var 6 rfl hd14) (ed_tup (eds_cons ed_str (eds_cons ed_str eds_nil)))) ?_) eds_nil))) rfl) x14.gh fun gv15 G15 H15 y15 hg15 => ?_)
  · rw [show matchM (mayOf ksF lnF) 8 ["s", "z"] [] = none by decide +kernel]
    rfl
  have x15 := x14.trans y15
  change WB _ _ _ [some hv, some lv, some kv5, some gv15, some ov11, some fv, some dv, none] _
  have hf15 := hf14.up y15.gg
  have hd15 := hd14.up y15.gg
  have ho15 := ho13.up (y14.gg.trans y15.gg)
  refine b_cons (s_set 4 c_law_by_hand_right.nd (d := .list fin10) (ED.to (ed_catL (es' := [rD [("a", "z"), ("b", "y"), ("c", "w"), ("d", "v"), ("e", "u"), ("f", "t")], .int 6, .bool false]) (by decide) (ed_var 4 rfl ho15) (ed_lst (eds_cons (ed_tup (eds_cons (ed_tup (eds_cons ed_str (eds_cons ed_str eds_nil))) (eds_cons (ed_tup (eds_cons ed_str (eds_cons ed_str eds_nil))) (eds_cons (ed_tup (eds_cons ed_str (eds_cons ed_str eds_nil))) (eds_cons (ed_tup (eds_cons ed_str (eds_cons ed_str eds_nil))) (eds_cons (ed_tup (eds_cons ed_str (eds_cons ed_str eds_nil))) (eds_cons (ed_tup (eds_cons ed_str (eds_cons ed_str eds_nil))) eds_nil))))))) (eds_cons ed_int (eds_cons ed_bl eds_nil))))) rfl) x15.gh fun ov16 G16 H16 y16 ho16 => ?_)
  have x16 := x15.trans y16
  change WB _ _ _ [some hv, some lv, some kv5, some gv15, some ov16, some fv, some dv, none] _
  have hf16 := hf15.up y16.gg
  have hd16 := hd15.up y16.gg
  have hg16 := hg15.up y16.gg
  refine b_cons (s_set 3 c_law_by_hand_right.nd (d := .list fin11) (ED.to (ed_catL (es' := [.bool true]) (by decide) (ed_var 3 rfl hg16) (ed_lst (eds_cons (ED.to (ed_can (sd := tupS ["g", "t", "u", "v", "w"]) (r := ["g", "t", "u", "v", "w"]) D.can hr fairF (asksF (by decide +kernel) (by decide +kernel) (by decide)) ibF ilF rfl (ed_var 5 rfl hf16.dq) (ed_var 6 rfl hd16) (ed_tup (eds_cons ed_str (eds_cons ed_str (eds_cons ed_str (eds_cons ed_str (eds_cons ed_str eds_nil))))))) ?_) eds_nil))) rfl) x16.gh fun gv17 G17 H17 y17 hg17 => ?_)
  · rw [show (matchM (mayOf ksF lnF) 8 ["g", "t", "u", "v", "w"] []).isSome = true by decide +kernel]
  have x17 := x16.trans y17
  change WB _ _ _ [some hv, some lv, some kv5, some gv17, some ov16, some fv, some dv, none] _
  have hf17 := hf16.up y17.gg
  have hd17 := hd16.up y17.gg
  refine b_cons (s_set 3 c_law_by_hand_right.nd (d := .list fin12) (ED.to (ed_catL (es' := [.bool false]) (by decide) (ed_var 3 rfl hg17) (ed_lst (eds_cons (ED.to (ed_can (sd := tupS ["g", "s", "t", "u", "v", "w", "y"]) (r := ["g", "s", "t", "u", "v", "w", "y"]) D.can hr fairF (asksF (by decide +kernel) (by decide +kernel) (by decide)) ibF ilF rfl (ed_var 5 rfl hf17.dq) (ed_var 6 rfl hd17) (ed_tup (eds_cons ed_str (eds_cons ed_str (eds_cons ed_str (eds_cons ed_str (eds_cons ed_str (eds_cons ed_str (eds_cons ed_str eds_nil))))))))) ?_) eds_nil))) rfl) x17.gh fun gv18 G18 H18 y18 hg18 => ?_)
  · rw [show matchM (mayOf ksF lnF) 8 ["g", "s", "t", "u", "v", "w", "y"] [] = none by decide +kernel]
    rfl
  have x18 := x17.trans y18
  change WB _ _ _ [some hv, some lv, some kv5, some gv18, some ov16, some fv, some dv, none] _
  have hf18 := hf17.up y18.gg
  have hd18 := hd17.up y18.gg
  refine b_cons (s_set 3 c_law_by_hand_right.nd (d := .list fin13) (ED.to (ed_catL (es' := [.int 2]) (by decide) (ed_var 3 rfl hg18) (ed_lst (eds_cons (ED.to (ed_most (line := lnD) (ld := lD lnD) D.most hr fairD (gndF lnD) (by decide) ibF line_host (ed_var 5 rfl hf18.dq) (ED.to (ed_catT (by decide) (ed_slT (ed_var 6 rfl hd18) eo_none (eo_some (i := ((1 : Nat) : Int)) ed_int)) (ed_slT (ed_var 6 rfl hd18) (eo_some (i := ((7 : Nat) : Int)) ed_int) eo_none)) (by rw [cut_to, cut_from]; rfl))) (by rw [mostD]; rfl)) eds_nil))) rfl) x18.gh fun gv19 G19 H19 y19 hg19 => ?_)
  have x19 := x18.trans y19
  change WB _ _ _ [some hv, some lv, some kv5, some gv19, some ov16, some fv, some dv, none] _
  refine b_cons (s_set 4 c_law_by_hand_right.nd (d := .list fin13) (ED.to (ed_catL (es' := [.bool true, .bool false, .int 2]) (by decide) (ed_var 4 rfl (ho16.up (y17.gg.trans (y18.gg.trans y19.gg)))) (ed_lst (eds_cons ed_bl (eds_cons ed_bl (eds_cons ed_int eds_nil))))) rfl) x19.gh fun ov20 G20 H20 y20 ho20 => ?_)
  have x20 := x19.trans y20
  change WB _ _ _ [some hv, some lv, some kv5, some gv19, some ov20, some fv, some dv, none] _
  have hf20 := hf18.up (y19.gg.trans y20.gg)
  have hd20 := hd18.up (y19.gg.trans y20.gg)
  have hg20 := hg19.up y20.gg
  refine b_cons (s_if (k := false) (EW.t (ew_or (k := false) (k' := false) (et_not (k := true) (et_val (ed_call (E := eN) (D.same 4 (by decide)) hr pasN (eds_cons (ed_var 3 rfl hg20) (eds_cons (ed_var 4 rfl ho20) eds_nil)) ⟨_, rfl, by decide +kernel, rfl⟩))) fun _ => ew_or1 (et_not (k := true) (et_val (ed_asked D.asked hr okF (ev_var 5 rfl hf20) (ED.to (ed_slT (ed_var 6 rfl hd20) (eo_some (i := ((4 : Nat) : Int)) ed_int) (eo_some (i := ((8 : Nat) : Int)) ed_int)) rfl)))))) x20.gh (fun h => by cases h) fun _ G21 H21 y21 => b_nil ?_)
  have x21 := x20.trans y21
  have s9 : Same G9 G21 := y10.gg.trans (y11.gg.trans (y12.gg.trans (y13.gg.trans (y14.gg.trans (y15.gg.trans (y16.gg.trans (y17.gg.trans (y18.gg.trans (y19.gg.trans (y20.gg.trans y21.gg))))))))))
  refine b_one (s_ret (ed_and (k := true) (ed_asked D.asked hr okA (ev_var 0 rfl (hh9.up s9)) (ed_var 1 rfl (hl9.up s9))) (fun _ => ed_one (ed_call (E := eN) Al hr pasN (eds_cons (ed_var 0 rfl (hh9.up s9).dq) (eds_cons (ed_var 1 rfl (hl9.up s9)) eds_nil)) ⟨rfl, rfl⟩)) fun h => by cases h) x21.gh fun v G3 H3 y h => by cases h; exact q _ (x21.trans y).hh)
end
end Wk
set_option maxHeartbeats 4000000
/-! Lists that the body itself changes; four names at once; calls by keywords alone. -/
namespace Wk
open PySem PySem.Spec PyProof.Rows L2 Km PySem.Nt
/-- a list that is told of, and that may still change -/
def Own (a : Addr) (ds : List PyData) (G H : Hp) : Prop := G a = none ∧ ∃ vs, H a = some (.lst vs) ∧ DqAll G vs ds
theorem Own.keep {ms : Addr → Prop} {a : Addr} {ds : List PyData} {G H G2 H2 : Hp} (O : Own a ds G H) (x : ExtM ms G H G2 H2) (n : ¬ ms a) : Own a ds G2 H2 := by
  obtain ⟨h1, vs, h2, h3⟩ := O
  exact ⟨x.out a (by rw [h2]; exact fun z => by cases z) h1, vs, x.hh a _ n h2, h3.up x.gg⟩
theorem Own.ext {a : Addr} {ds : List PyData} {G H G2 H2 : Hp} (O : Own a ds G H) (x : Ext G H G2 H2) : Own a ds G2 H2 := O.keep (ms := fun _ => False) x.m id
/-- it changes no more -/
theorem Own.shut {a : Addr} {ds : List PyData} {G0 H0 G H : Hp} (O : Own a ds G H) (x : Ext G0 H0 G H) (h : H0 a = none) : ∃ G', Ext G0 H0 G' H ∧ Same G G' ∧ Dq G' (.ref a) (.list ds) ∧ (∀ b, b ≠ a → G' b = G b) := by
  obtain ⟨h1, vs, h2, h3⟩ := O
  have s : Same G (upd G a (.lst vs)) := Same.laid h1
  refine ⟨upd G a (.lst vs), ⟨x.gg.trans s, x.hh, fun b o e => ?_, fun b e1 e2 => ?_⟩, s, .lst upd_same (h3.up s), fun b n => upd_ne n⟩
  · by_cases z : b = a
    · rw [z, upd_same] at e
      rw [z, h2]
      exact e
    · rw [upd_ne z] at e
      exact x.gh b o e
  · rw [upd_ne (fun z => e1 (by rw [z]; exact h))]
    exact x.out b e1 e2
theorem ExtM.shut {ms : Addr → Prop} {G H G2 H2 : Hp} (x : ExtM ms G H G2 H2) (h : ∀ b, ms b → H b = none) : Ext G H G2 H2 := ⟨x.gg, fun b o e => x.hh b o (fun z => by rw [h b z] at e; cases e) e, x.gh, x.out⟩
/-- .. behind what changes nothing of the heap before -/
theorem ExtM.after {ms : Addr → Prop} {G0 H0 G H G2 H2 : Hp} (y : Ext G0 H0 G H) (x : ExtM ms G H G2 H2) (h : ∀ b, ms b → H0 b = none) : Ext G0 H0 G2 H2 := (ExtM.trans (y.m (ms := ms)) x).shut h
section
variable {X : Cx} {a b c d : Expr} {e : Expr} {es : List Expr} {σ : L2.St} {G H : Hp} {ds es' : List PyData} {dd : PyData} {pos p p2 p3 p4 p5 p6 apos : Pos} {Q : VK} {D : Ends}
theorem w_catO (hz : ds.length + es'.length ≤ 100000) (ha : ED X a σ G (.list ds)) (hb : ED X b σ G (.list es')) (s : Same G H) (k : ∀ l G2 H2, Ext G H G2 H2 → H l = none → Own l (ds ++ es') G2 H2 → Q (.ref l) H2) : WE X (.BinOp a .Add b pos) σ H Q :=
  we (pe_op op_cat pe pe) (ha H s _ fun v G2 H2 x h1 => hb.up x.gg H2 x.gh _ fun w G3 H3 y h2 => by
    cases h1 with
    | @lst r xs _ h1 h3 =>
      cases h2 with
      | @lst r' ys _ h2 h4 =>
        refine ⟨r, r', xs, ys, rfl, rfl, y.gh _ _ (y.gg _ _ h1), y.gh _ _ h2, by rw [h3.length, h4.length]; exact line _ hz, fun l hl => ?_⟩
        have z := x.trans y
        exact k l G3 _ (z.grow hl) (z.hh.free hl) ⟨z.gh.free hl, _, upd_same, DqAll.append h4 (h3.up y.gg)⟩)
/-- x.append(e) -/
theorem s_app {x : Str} {l : Addr} (i : Nat) (O : Own l ds G H) (hs : σ[i]? = some (some (.ref l))) (hz : ds.length ≤ 1000) (he : ED X e σ G dd) (s : Same G H) (k : ∀ G2 H2, ExtM (fun b => b = l) G H G2 H2 → Own l (ds ++ [dd]) G2 H2 → D.nx σ H2)
    (hN : X.N[i]? = some x := by rfl) (hv : Vis X.env.scope x := by first | exact Or.inl rfl | exact Or.inr (Or.inl rfl) | exact Or.inr (Or.inr rfl)) (hd : (x == ("__debug__" : Str)) = false := by decide) (hcd : (x == ("__classdict__" : Str)) = false := by decide)
    (ht : starEach [e] X.env = (false, eval e X.env) :: starEach [] X.env := by rfl) (hbase : attributeBase (.Name x p) "append" X.env (eval (.Name x p) X.env) = eval (.Name x p) X.env := by rfl) (hline : (apos.endLine == p2.line) = true := by rfl)
    (hfew : ((backTo p2 (starEach [e] X.env)).all (fun x => !x.1) && (backToKw p2 (keywordEach [] X.env)).all (fun x => x.1.isSome)
      && decide ([e].length + ([] : List Keyword).length + (if ([] : List Keyword).isEmpty then 0 else 1) < 30)) = true := by rfl)
    (hsw : swapsWith (.Call (.Attribute (.Name x p) "append" apos) [e] [] p2) none pos.line X.env = pure false := by rfl) : WS X (.Expr (.Call (.Attribute (.Name x p) "append" apos) [e] [] p2) pos) D σ H := by
  obtain ⟨o1, vs, o2, o3⟩ := O
  refine s_dropV (we (pe_bm PySem.F.plainAttrs_list PySem.F.slot_list_append PySem.F.type_list_append mt_append pe pa (hbase := hbase) (hfew := hfew) (hline := hline) (hs := ht)) (we (pe_var hN hv hd hcd) ⟨.ref l, hs, .inl ⟨rfl, _, .of o2⟩, wa (pa_cons pe pa_nil ht) (w_ed he s fun ev G2 H2 y hev => ?_)⟩)) hsw
  have n : H l ≠ none := by rw [o2]; exact fun z => by cases z
  have o5 := y.hh _ _ o2
  have o6 := y.out l n o1
  refine ⟨l, vs, ev, rfl, rfl, o5, Nat.lt_of_le_of_lt (by rw [o3.length]; exact hz) (by decide), ?_⟩
  refine k G2 _ ⟨y.gg, fun b o nb e => ?_, y.gh.mut o6, y.out, fun b nb => ?_⟩ ⟨o6, _, upd_same, DqAll.snoc hev (o3.up y.gg)⟩
  · rw [upd_ne nb]
    exact y.hh b o e
  · by_cases z : b = l
    · rw [z, upd_same]
      exact fun z => by cases z
    · rw [upd_ne z]
      exact Same.some y.hh nb
/-- a, b, c, d = .. -/
theorem s_quad {x y z t : Str} {k k2 : Nat} (i j m n : Nat) (hc : X.calm = true) (hNn : X.N.Nodup) (h : WE X a σ H fun v H1 => WE X b σ H1 fun w H2 => WE X c σ H2 fun u H3 => WE X d σ H3 fun q H4 => ∀ r, H4 r = none → D.nx ((((σ.set i (some v)).set j (some w)).set m (some u)).set n (some q)) (upd H4 r (.tup [v, w, u, q])))
    (hi : X.N[i]? = some x := by rfl) (hx : Loc X.env.scope x := by first | exact .inl rfl | exact .inr rfl) (hf : X.fn x = true ∨ X.env.scope.names.lookup x = some .local := by first | exact .inl rfl | exact .inr rfl)
    (hj : X.N[j]? = some y := by rfl) (hy : Loc X.env.scope y := by first | exact .inl rfl | exact .inr rfl) (hf2 : X.fn y = true ∨ X.env.scope.names.lookup y = some .local := by first | exact .inl rfl | exact .inr rfl)
    (hm : X.N[m]? = some z := by rfl) (hzz : Loc X.env.scope z := by first | exact .inl rfl | exact .inr rfl) (hf3 : X.fn z = true ∨ X.env.scope.names.lookup z = some .local := by first | exact .inl rfl | exact .inr rfl)
    (hn : X.N[n]? = some t := by rfl) (htt : Loc X.env.scope t := by first | exact .inl rfl | exact .inr rfl) (hf4 : X.fn t = true ∨ X.env.scope.names.lookup t = some .local := by first | exact .inl rfl | exact .inr rfl)
    (hl : (assignEach [.Name x p, .Name y p2, .Name z p3, .Name t p4] X.env).length = 4 := by rfl) (hst : (assignEach [.Name x p, .Name y p2, .Name z p3, .Name t p4] X.env).findIdx? (·.1) = none := by rfl)
    (h1 : (assignEach [.Name x p, .Name y p2, .Name z p3, .Name t p4] X.env).map (·.2) = assign (.Name x p) X.env :: (assignEach [.Name y p2, .Name z p3, .Name t p4] X.env).map (·.2) := by rfl)
    (h2 : (assignEach [.Name y p2, .Name z p3, .Name t p4] X.env).map (·.2) = assign (.Name y p2) X.env :: (assignEach [.Name z p3, .Name t p4] X.env).map (·.2) := by rfl)
    (h3 : (assignEach [.Name z p3, .Name t p4] X.env).map (·.2) = assign (.Name z p3) X.env :: (assignEach [.Name t p4] X.env).map (·.2) := by rfl)
    (h4 : (assignEach [.Name t p4] X.env).map (·.2) = assign (.Name t p4) X.env :: (assignEach [] X.env).map (·.2) := by rfl)
    (hs : swapsWithSole [.Tuple [.Name x p, .Name y p2, .Name z p3, .Name t p4] k p5] (.Tuple [a, b, c, d] k2 p6) pos.line X.env = pure false := by rfl) (hw : swappedStores [.Tuple [.Name x p, .Name y p2, .Name z p3, .Name t p4] k p5] (.Tuple [a, b, c, d] k2 p6) X.env = pure none := by rfl)
    (h5 : (assignEach [.Tuple [.Name x p, .Name y p2, .Name z p3, .Name t p4] k p5] X.env).map (·.2) = [assign (.Tuple [.Name x p, .Name y p2, .Name z p3, .Name t p4] k p5) X.env] := by rfl)
    (n1 : starEach [a, b, c, d] X.env = (false, eval a X.env) :: starEach [b, c, d] X.env := by rfl) (n2 : starEach [b, c, d] X.env = (false, eval b X.env) :: starEach [c, d] X.env := by rfl) (n3 : starEach [c, d] X.env = (false, eval c X.env) :: starEach [d] X.env := by rfl) (n4 : starEach [d] X.env = (false, eval d X.env) :: starEach [] X.env := by rfl) :
    WS X (.Assign [.Tuple [.Name x p, .Name y p2, .Name z p3, .Name t p4] k p5] (.Tuple [a, b, c, d] k2 p6) pos) D σ H := by
  have names := pgs_cons (X := X) (pg_name (i := i) (pos := p) hNn hi hx hf) (pgs_cons (pg_name (i := j) (pos := p2) hNn hj hy hf2) (pgs_cons (pg_name (i := m) (pos := p3) hNn hm hzz hf3) (pgs_cons (pg_name (i := n) (pos := p4) hNn hn htt hf4) pgs_nil h4) h3) h2) h1
  refine ws (ps_asg (pe_tup (pa_cons pe (pa_cons pe (pa_cons pe (pa_cons pe pa_nil n4) n3) n2) n1)) (pg_tup hc names hl hst) hs hw h5) ?_
  exact we_mono h fun v H1 h1 => we_mono h1 fun w H2 h2 => we_mono h2 fun u H3 h3 => we_mono h3 fun q H4 h4 => ⟨by show 4 ≤ sizeLine; decide, fun r hr => ⟨r, [v, w, u, q], rfl, .of upd_same, rfl, v, [w, u, q], rfl, w, [u, q], rfl, u, [q], rfl, q, [], rfl, rfl, h4 r hr⟩⟩
end
/-! ### calls by keywords alone, the last parameter first -/
structure CalR (P : Program) (w : World) (K : PySem.W.Frag) (mg : Str → Option Value) (base : Heap) (CX : CXT) (x : Str) (ps ks : List Str) (k : Nat) (sp : Sp) : Prop where
  ex : ∃ f fd, FnOk P w K mg base CX k f fd ps sp ∧ mg x = some (.ref f) ∧ PySem.W.keepIn K (.ref f) = true ∧ KBinds K fd ps ks (fun us ws => us ++ ws.reverse) (fun vs zs => vs ++ zs.reverse)
abbrev CalRX (X : Cx) (CX : CXT) (x : Str) (ps ks : List Str) (k : Nat) (sp : Sp) : Prop := CalR X.prog X.w X.K X.mg X.base CX x ps ks k sp
theorem CalR.mono {P : Program} {w : World} {K : PySem.W.Frag} {mg : Str → Option Value} {base : Heap} {CX : CXT} {x : Str} {ps ks : List Str} {j k : Nat} {sp : Sp} (C : CalR P w K mg base CX x ps ks j sp) (h : j ≤ k) : CalR P w K mg base CX x ps ks k sp := by
  obtain ⟨f, fd, F, a, b, c⟩ := C.ex
  exact ⟨f, fd, F.mono h, a, b, c⟩
section
variable {X : Cx} {CX : CXT} {a b c : Expr} {σ : L2.St} {G H : Hp} {Q : VK} {E : XK} {kws : List Keyword} {x : Str} {ps ks : List Str} {k : Nat} {sp : Sp} {pos p q1 q2 q3 : Pos} {C : Addr} {bd ld sd : PyData} {kd : List (Str × List Str)} {line : List (Str × Str)} {U r : List Str}
theorem wcallR (Cc : CalRX X CX x ps ks k sp) (hr : Room k X.A) (hx : Passes CX X E) (h : WK X kws σ H fun zs H1 => sp zs.reverse H1 Q E) (hg : Gl X x := by rfl) (hall : (backToKw pos (keywordEach kws X.env)).all (·.1.isSome) = true := by rfl) (hks : (backToKw pos (keywordEach kws X.env)).filterMap (·.1) = ks := by rfl)
    (hdb : (x == ("__debug__" : Str)) = false := by decide) (hpl : ((backTo pos (starEach [] X.env)).any (·.1) || (backToKw pos (keywordEach kws X.env)).any (·.1.isNone)) = false := by rfl) : WE X (.Call (.Name x p) [] kws pos) σ H Q := by
  obtain ⟨f, fd, F, hm, hk, hb⟩ := Cc.ex
  refine ⟨fun pins s I => ?_⟩
  refine wpAny_Call_Name_kw (ld_glob I hg hm ?_ hdb)
  refine PySem.W.callWith_KW0 (h₀ := X.base) I.ok.mod.kin hk hall ?_ hpl
  refine thn (h.run pos pins s I) fun ws s2 ⟨zs, H2, I2, rz, q2⟩ => ⟨I2.kIn, ?_⟩
  rw [hks]
  exact run_fnk (us := []) (vs := []) F hr hb hx I2 .nil rz q2
theorem w_eks {kws : List Keyword} {ds : List PyData} {Q : List V → Hp → Prop} (h : EK X kws σ G ds) (s : Same G H) (q : ∀ vs G2 H2, Ext G H G2 H2 → DqAll G2 vs ds → Q vs H2) : WK X kws σ H Q := h H s Q q
theorem ed_canR (Cn : CalRX X (L2.CX X.prog X.w) "can_seat" ["book", "ready", "some"] ["some", "ready", "book"] k (SpCan C)) (hr : Room k X.A) (fair : Fair kd line) (as : Asks kd line U r) (ib : IsBook bd kd) (il : IsLine ld line) (hs : seqOf sd = some (r.map .str)) (h1 : ED X a σ G bd) (h2 : ED X b σ G ld) (h3 : ED X c σ G sd) (hg : Gl X "can_seat" := by rfl)
    (hall : (backToKw pos (keywordEach [⟨some "some", c, q1⟩, ⟨some "ready", b, q2⟩, ⟨some "book", a, q3⟩] X.env)).all (·.1.isSome) = true := by rfl) (hks : (backToKw pos (keywordEach [⟨some "some", c, q1⟩, ⟨some "ready", b, q2⟩, ⟨some "book", a, q3⟩] X.env)).filterMap (·.1) = (["some", "ready", "book"] : List Str) := by rfl)
    (hpl : ((backTo pos (starEach [] X.env)).any (·.1) || (backToKw pos (keywordEach [⟨some "some", c, q1⟩, ⟨some "ready", b, q2⟩, ⟨some "book", a, q3⟩] X.env)).any (·.1.isNone)) = false := by rfl) :
    ED X (.Call (.Name "can_seat" p) [] [⟨some "some", c, q1⟩, ⟨some "ready", b, q2⟩, ⟨some "book", a, q3⟩] pos) σ G (.bool (matchM (mayOf kd line) 8 r []).isSome) := fun H s Q q =>
  wcallR Cn hr passE (w_eks (ek_cons h3 (ek_cons h2 (ek_cons h1 ek_nil))) s fun vs G2 H2 y ps => by
    obtain ⟨w3, w2, w1, rfl, p3, p2, p1⟩ := three ps
    exact ⟨G2, w1, w2, w3, kd, line, r, rfl, y.gh, ⟨⟨_, p1, ib⟩, ⟨_, p2, il⟩, ⟨_, p3, hs⟩, fair, as.sz⟩, (fun n h => by rw [no_missing as.own] at h; cases h), fun _ => ⟨U, as, RD.ext q y⟩⟩) hg hall hks (by decide) hpl
theorem ed_seatingR (Cn : CalRX X (L2.CX X.prog X.w) "a_seating" ["book", "ready", "some"] ["some", "ready", "book"] k (SpSeating C)) (hr : Room k X.A) (fair : Fair kd line) (as : Asks kd line U r) (ib : IsBook bd kd) (il : IsLine ld line) (hs : seqOf sd = some (r.map .str)) (h1 : ED X a σ G bd) (h2 : ED X b σ G ld) (h3 : ED X c σ G sd) (hg : Gl X "a_seating" := by rfl)
    (hall : (backToKw pos (keywordEach [⟨some "some", c, q1⟩, ⟨some "ready", b, q2⟩, ⟨some "book", a, q3⟩] X.env)).all (·.1.isSome) = true := by rfl) (hks : (backToKw pos (keywordEach [⟨some "some", c, q1⟩, ⟨some "ready", b, q2⟩, ⟨some "book", a, q3⟩] X.env)).filterMap (·.1) = (["some", "ready", "book"] : List Str) := by rfl)
    (hpl : ((backTo pos (starEach [] X.env)).any (·.1) || (backToKw pos (keywordEach [⟨some "some", c, q1⟩, ⟨some "ready", b, q2⟩, ⟨some "book", a, q3⟩] X.env)).any (·.1.isNone)) = false := by rfl) :
    ED X (.Call (.Name "a_seating" p) [] [⟨some "some", c, q1⟩, ⟨some "ready", b, q2⟩, ⟨some "book", a, q3⟩] pos) σ G (seatsD (matchM (mayOf kd line) 8 r [])) := fun H s Q q =>
  wcallR Cn hr passE (w_eks (ek_cons h3 (ek_cons h2 (ek_cons h1 ek_nil))) s fun vs G2 H2 y ps => by
    obtain ⟨w3, w2, w1, rfl, p3, p2, p1⟩ := three ps
    exact ⟨G2, w1, w2, w3, kd, line, r, rfl, y.gh, ⟨⟨_, p1, ib⟩, ⟨_, p2, il⟩, ⟨_, p3, hs⟩, fair, as.sz⟩, (fun n h => by rw [no_missing as.own] at h; cases h), fun _ => ⟨U, as, RD.ext q y⟩⟩) hg hall hks (by decide) hpl
theorem ed_mostR (Cn : CalRX X CX0 "most_seated" ["book", "ready"] ["ready", "book"] k SpMost) (hr : Room k X.A) (fair : Fair kd line) (gr : Ground kd line U) (u8 : U.length ≤ 8) (ib : IsBook bd kd) (il : IsLine ld line) (h1 : ED X a σ G bd) (h2 : ED X b σ G ld) (hg : Gl X "most_seated" := by rfl)
    (hall : (backToKw pos (keywordEach [⟨some "ready", b, q2⟩, ⟨some "book", a, q3⟩] X.env)).all (·.1.isSome) = true := by rfl) (hks : (backToKw pos (keywordEach [⟨some "ready", b, q2⟩, ⟨some "book", a, q3⟩] X.env)).filterMap (·.1) = (["ready", "book"] : List Str) := by rfl)
    (hpl : ((backTo pos (starEach [] X.env)).any (·.1) || (backToKw pos (keywordEach [⟨some "ready", b, q2⟩, ⟨some "book", a, q3⟩] X.env)).any (·.1.isNone)) = false := by rfl) :
    ED X (.Call (.Name "most_seated" p) [] [⟨some "ready", b, q2⟩, ⟨some "book", a, q3⟩] pos) σ G (.int ((mostM (mayOf kd line) 8 (tasksOf line) []).1 : Nat)) := fun H s Q q =>
  wcallR (E := eN) Cn hr pasN (w_eks (ek_cons h2 (ek_cons h1 ek_nil)) s fun vs G2 H2 y ps => by
    obtain ⟨w2, w1, rfl, p2, p1⟩ := ps.two
    exact ⟨G2, w1, w2, bd, ld, kd, line, U, rfl, y.gh, p1, p2, ib, il, fair, gr, u8, RD.ext q y⟩) hg hall hks (by decide) hpl
end
end Wk
set_option maxHeartbeats 4000000
/-! alike. -/
namespace Wk
open PySem PySem.Spec PyProof.Rows L2 Km PySem.Nt
theorem ExtM.wide {ms ms2 : Addr → Prop} {G H G2 H2 : Hp} (x : ExtM ms G H G2 H2) (h : ∀ b, ms b → ms2 b) : ExtM ms2 G H G2 H2 := ⟨x.gg, fun b o n e => x.hh b o (fun z => n (h b z)) e, x.gh, x.out, x.live⟩
def cpM : List Str := ["a", "b"]
def ksM : Ks := [("x", ["a", "b"]), ("z", ["a"])]
def lnX : Ln := [("t", "x"), ("u", "z")]
def mxD : PyData := .tuple [.list [.str "a", .str "b"], .tuple [.list [.str "x", .list [.str "a", .str "b"]], .tuple [.str "z", .list [.str "a"]]]]
def lxD : PyData := .tuple [.list [.str "t", .str "x"], .tuple [.str "u", .str "z"]]
theorem bookM : IsBook mxD ksM := ⟨_, _, rfl, rfl, rfl⟩
theorem lineM : IsLine lxD lnX := ⟨[(.list [.str "t", .str "x"], ("t", "x")), (.tuple [.str "u", .str "z"], ("u", "z"))], rfl, rfl, fun r hr => by
  rcases List.mem_cons.mp hr with rfl | hr
  · rfl
  · rw [List.mem_singleton] at hr
    rw [hr]
    rfl⟩
theorem fairM : Fair ksM lnX := ⟨by decide +kernel, by decide +kernel, by decide +kernel, by decide⟩
theorem gndM : Ground ksM lnX cpM := gnd_of (by decide +kernel) (by decide)
theorem asksM {xs : List Str} (h1 : xs.Nodup) (h2 : ∀ x ∈ xs, x ∈ lnX.map (·.1)) (h3 : xs.length ≤ 1000) : Asks ksM lnX cpM xs := ⟨gndM, by decide, h1, h2, h3⟩
theorem mostX : (mostM (mayOf ksM lnX) 8 (tasksOf lnX) []).1 = 2 := by decide +kernel
theorem mostO : (mostM (mayOf ksO lnO) 8 (tasksOf lnO) []).1 = 2 := by decide +kernel
def oddL : List (List Str × Str) := [(["x"], "x"), (["t", "z"], "z"), (["a", "t"], "a"), (["a", "x"], "a"), (["t", "x", "z"], "x")]
theorem oddL_ok : ∀ e ∈ oddL, missing lnA e.1 = some e.2 ∧ e.1.length ≤ 1000 := by decide +kernel
def rowN : PyData := .list (oddL.map fun e => ntD e.2)
def lotsO : List (List Str × Bool) := [(["t", "v"], true), (["t", "u", "v"], false), (["v"], true)]
theorem lotsO_ok : ∀ e ∈ lotsO, (matchM (mayOf ksO lnO) 8 e.1 []).isSome = e.2 ∧ e.1.Nodup ∧ (∀ x ∈ e.1, x ∈ lnO.map (·.1)) ∧ e.1.length ≤ 1000 := by decide +kernel
theorem okO : Okay cpO ksO lnO where
  fair := fairO
  sub := by decide +kernel
  u6 := by decide
  nmc := nm_all (by decide +kernel)
  nmt := fun e he => nm_all (xs := lnO.map (·.1)) (by decide +kernel) e.1 (List.mem_map.mpr ⟨e, he, rfl⟩)
  m6 := by decide +kernel
  k6 := by decide +kernel
  ks6 := by decide
  l5 := by decide
def gB : List PyData := [.list (lotsO.map fun e => .bool e.2), .int 2]
section
variable {P : Program} {w : World} {K : PySem.W.Frag} {mg : Str → Option Value} {base : Heap} {C : Addr}
theorem ok_alike {f : Addr} {fd : FuncData} (B : Bi mg) (F : Fun K "_law_alike_right" "_law_alike_right" s_law_alike_right f fd) (D : Hands P w K mg base C 13)
    (Ca : CalR P w K mg base (L2.CX P w) "can_seat" ["book", "ready", "some"] ["some", "ready", "book"] 13 (SpCan C)) (Se : CalR P w K mg base (L2.CX P w) "a_seating" ["book", "ready", "some"] ["some", "ready", "book"] 13 (SpSeating C)) (Mo : CalR P w K mg base CX0 "most_seated" ["book", "ready"] ["ready", "book"] 13 SpMost) : FnOk P w K mg base CX0 14 f fd ["_law_host_here", "_law_line_so"] (PureSp RAlike) := by
  refine pure_ok F c_law_alike_right (fun ds d h => by obtain ⟨rfl, _⟩ := h; rfl) fun cdv A outer s H E G vs ds d Q hr sG hv hR q => ?_
  obtain ⟨rfl, rfl⟩ := hR
  obtain ⟨v1, v2, rfl, h1, h2⟩ := hv.two
  refine b_cons (s_quad 2 3 4 5 rfl c_law_alike_right.nd (w_ed (d := .list []) (ed_lst eds_nil) sG fun a1 G1 H1 y1 k1 => w_ed (d := .list []) (ed_lst eds_nil) y1.gh fun a2 G2 H2 y2 k2 => w_ev (R := HostF cpO ksO) (ev_host D.host hr flatO) y2.gh fun hv G3 H3 y3 hh => w_ed (ed_queue D.queue hr queueO (by decide +kernel) (by decide +kernel) (by decide +kernel) (by decide +kernel)) y3.gh fun lv G4 H4 y4 hl => fun r hr4 => ?_))
  have x4 := Ext.grow (o := .tup [a1, a2, hv, lv]) (((y1.trans y2).trans y3).trans y4) hr4
  generalize upd H4 r (.tup [a1, a2, hv, lv]) = H5 at x4
  have g4 := k1.up (y2.gg.trans (y3.gg.trans y4.gg))
  have o4 := k2.up (y3.gg.trans y4.gg)
  have hh4 := hh.up y4.gg
  have ib := book_host okO
  have il := line_host (line := lnO)
  refine b_cons (s_set 2 c_law_alike_right.nd (d := .list [.list (lotsO.map fun e => .bool e.2)]) (ed_catL (ds := []) (by decide) (ed_var 2 rfl g4) (ed_lst (eds_cons (ed_lc1 10 lotsO (fun e => tupS e.1) (fun e => .bool e.2) (by decide) rfl c_law_alike_right.nd (blk_ok n_law_alike_right (defScope s_law_alike_right) _ _ (by decide +kernel)) (ei_seq (d := .tuple (lotsO.map fun e => tupS e.1)) rfl (ed_tup (eds_cons (ed_tup (eds_cons ed_str (eds_cons ed_str eds_nil))) (eds_cons (ed_tup (eds_cons ed_str (eds_cons ed_str (eds_cons ed_str eds_nil)))) (eds_cons (ed_tup (eds_cons ed_str eds_nil)) eds_nil))))) (fun e he G6 s6 u hu s0 H0 C cl fp => ED.to (ed_can D.can hr fairO (asksO (lotsO_ok e he).2.1 (lotsO_ok e he).2.2.1 (lotsO_ok e he).2.2.2) ib il rfl (ed_var 4 rfl (hh4.up s6).dq) (ed_var 5 rfl (hl.up s6)) (ed_var 10 rfl hu)) (by rw [(lotsO_ok e he).1]))) eds_nil))) x4.gh fun gv G6 H6 y6 hg6 => ?_)
  have x6 := x4.trans y6
  have hh6 := hh4.up y6.gg
  have hl6 := hl.up y6.gg
  refine b_cons (s_setV 2 c_law_alike_right.nd (w_catO (es' := [.int 2]) (by decide) (ed_var 2 rfl hg6) (ed_lst (eds_cons (ED.to (ed_most D.most hr fairO gndO (by decide) ib il (ed_var 4 rfl hh6.dq) (ed_var 5 rfl hl6)) (by rw [mostO]; rfl)) eds_nil)) x6.gh fun ga G7 H7 y7 fa Og => ?_))
  have x7 := x6.trans y7
  refine b_cons (s_setV 3 c_law_alike_right.nd (w_catO (ds := []) (es' := gB) (by decide) (ed_var 3 rfl (o4.up (y6.gg.trans y7.gg))) (ed_lst (eds_cons (ed_lst (eds_cons ed_bl (eds_cons ed_bl (eds_cons ed_bl eds_nil)))) (eds_cons ed_int eds_nil))) x7.gh fun la G8 H8 y8 fl Ol => ?_))
  have x8 := x7.trans y8
  have ne : la ≠ ga := fun z => by
    obtain ⟨_, us, h, _⟩ := Og
    rw [← z, fl] at h
    cases h
  have gH : H ga = none := x6.hh.free fa
  have lH : H la = none := x7.hh.free fl
  refine b_cons (s_set 6 c_law_alike_right.nd (d := .tuple (oddL.map fun e => tupS e.1)) (ed_tup (eds_cons (ed_tup (eds_cons ed_str eds_nil)) (eds_cons (ed_tup (eds_cons ed_str (eds_cons ed_str eds_nil))) (eds_cons (ed_tup (eds_cons ed_str (eds_cons ed_str eds_nil))) (eds_cons (ed_tup (eds_cons ed_str (eds_cons ed_str eds_nil))) (eds_cons (ed_tup (eds_cons ed_str (eds_cons ed_str (eds_cons ed_str eds_nil)))) eds_nil)))))) x8.gh fun dv G9 H9 y9 hd9 => ?_)
  have x9 := x8.trans y9
  have Og9 : Own ga gB G9 H9 := (Og.ext y8).ext y9
  have Ol9 : Own la gB G9 H9 := Ol.ext y9
  have s49 : Same G4 G9 := y6.gg.trans (y7.gg.trans (y8.gg.trans y9.gg))
  refine b_cons (s_for (G := G9) (List.range 2) (fun k : Nat => PyData.int (k : Int)) (fun c G σ σ2 => ∃ v, Dq G v (.int (c : Nat)) ∧ σ2 = σ.set 7 (some v))
    (fun i σ' G' H' => (∃ x, σ' = [some v1, some v2, some (.ref ga), some (.ref la), some hv, some lv, some dv, x, none, none, none]) ∧ ExtM (fun b => b = ga ∨ b = la) G9 H9 G' H' ∧ Own ga (gB ++ List.replicate i rowN) G' H' ∧ Own la (gB ++ List.replicate i rowN) G' H')
    PassesOwn.never rfl (ei_range (n := 2) (by decide) B.range ed_int) x9.gh (fun G1 H1 y => ⟨⟨none, rfl⟩, y.m, Og9.ext y, Ol9.ext y⟩) (fun i σ' G' H' h => h.2.1.gh) (fun c hc G3 s3 σ' => bnd_name 7 c_law_alike_right.nd) ?_ ?_)
  · rintro i c σ' G' H' G10 H10 σ2 hi ⟨⟨x, rfl⟩, xm, Og1, Ol1⟩ sa y10 ⟨cv, hcv, rfl⟩
    cases hcv
    have hi2 : i < 2 := by
      have := (List.getElem?_eq_some_iff.mp hi).1
      simpa using this
    have s910 : Same G9 G10 := xm.gg.trans y10.gg
    have sG10 : Same G G10 := x9.gg.trans s910
    have hz : (gB ++ List.replicate i rowN).length ≤ 1000 := by
      rw [List.length_append, List.length_replicate]
      show 2 + i ≤ 1000
      omega
    have hrep : List.replicate (i + 1) rowN = List.replicate i rowN ++ [rowN] := List.replicate_succ'
    refine b_cons (s_app (dd := rowN) 2 (Og1.ext y10) rfl hz (ed_lc1 10 oddL (fun e => tupS e.1) (fun e => ntD e.2) (by decide) rfl c_law_alike_right.nd (blk_ok n_law_alike_right (defScope s_law_alike_right) _ _ (by decide +kernel)) (ei_seq rfl (ed_var 6 rfl (hd9.up s910))) (fun e he G11 s11 u hu s0 H0 C cl fp => ed_heard (sd := tupS e.1) D.heard hr fairA (book_host okA) (line_host (line := lnA)) rfl (oddL_ok e he).2 (oddL_ok e he).1 (ed_var 7 rfl (.int _)) (ed_var 0 rfl (h1.up (sG10.trans s11))) (ed_var 1 rfl (h2.up (sG10.trans s11))) (ed_var 10 rfl hu))) y10.gh fun G11 H11 y11 Og2 => ?_)
    have Ol2 := (Ol1.ext y10).keep y11 ne
    refine b_one (s_app (dd := rowN) 3 Ol2 rfl hz (ED.to (ed_lc1 10 (oddL.map (·.2)) PyData.str (fun n => ntD n) (by decide) rfl c_law_alike_right.nd (blk_ok n_law_alike_right (defScope s_law_alike_right) _ _ (by decide +kernel)) (ei_seq (d := .tuple ((oddL.map (·.2)).map .str)) rfl (ed_tup (eds_cons ed_str (eds_cons ed_str (eds_cons ed_str (eds_cons ed_str (eds_cons ed_str eds_nil))))))) (fun n hn G12 s12 u hu s0 H0 C cl fp => ed_lst (eds_cons ed_str (eds_cons (ed_var 10 rfl hu) (eds_cons ed_bl eds_nil))) (by show 3 ≤ 100000; decide))) rfl) y11.gh fun G12 H12 y12 Ol3 => ?_)
    refine ⟨G12, ⟨⟨_, rfl⟩, ((xm.trans y10.m).trans (y11.wide fun b z => .inl z)).trans (y12.wide fun b z => .inr z), ?_, ?_⟩, y11.gg.trans y12.gg⟩
    · rw [hrep, ← List.append_assoc]
      exact Og2.keep y12 (fun z => ne z.symm)
    · rw [hrep, ← List.append_assoc]
      exact Ol3
  · rintro σ' G' H' ⟨⟨x, rfl⟩, xm, Og1, Ol1⟩ sa
    have Og1' : Own ga (gB ++ [rowN, rowN]) G' H' := Og1
    have Ol1' : Own la (gB ++ [rowN, rowN]) G' H' := Ol1
    have xx : Ext G H G' H' := ExtM.after x9 xm fun b z => by
      rcases z with rfl | rfl
      · exact gH
      · exact lH
    obtain ⟨G10, x10, s10, hg10, k10⟩ := Og1'.shut xx gH
    have Ol2 : Own la (gB ++ [rowN, rowN]) G10 H' := by
      obtain ⟨e1, us, e2, e3⟩ := Ol1'
      exact ⟨by rw [k10 la ne]; exact e1, us, e2, e3.up s10⟩
    obtain ⟨G11, x11, s11, ho11, _⟩ := Ol2.shut x10 lH
    have hg11 := hg10.up s11
    have s411 : Same G4 G11 := s49.trans (xm.gg.trans (s10.trans s11))
    refine b_cons (s_par 8 9 rfl c_law_alike_right.nd (by decide) (w_ed (d := mxD) (ed_tup (eds_cons (ed_lst (eds_cons ed_str (eds_cons ed_str eds_nil))) (eds_cons (ed_tup (eds_cons (ed_lst (eds_cons ed_str (eds_cons (ed_lst (eds_cons ed_str (eds_cons ed_str eds_nil))) eds_nil))) (eds_cons (ed_tup (eds_cons ed_str (eds_cons (ed_lst (eds_cons ed_str eds_nil)) eds_nil))) eds_nil))) eds_nil))) x11.gh fun mv G12 H12 y12 hm => w_ed (d := lxD) (ed_tup (eds_cons (ed_lst (eds_cons ed_str (eds_cons ed_str eds_nil))) (eds_cons (ed_tup (eds_cons ed_str (eds_cons ed_str eds_nil))) eds_nil))) y12.gh fun nv G13 H13 y13 hn => ?_))
    have x13 := (x11.trans y12).trans y13
    have hm13 := hm.up y13.gg
    have hg13 := hg11.up (y12.gg.trans y13.gg)
    have ho13 := ho11.up (y12.gg.trans y13.gg)
    refine b_cons (s_set 2 c_law_alike_right.nd (ed_catL (es' := [rD [("a", "u"), ("b", "t")], .bool true]) (by decide) (ed_var 2 rfl hg13) (ed_lst (eds_cons (ED.to (ed_seating (sd := .list [.str "t", .str "u"]) (r := ["t", "u"]) D.sea hr fairM (asksM (by decide +kernel) (by decide +kernel) (by decide)) bookM lineM rfl (ed_var 8 rfl hm13) (ed_var 9 rfl hn) (ed_lst (eds_cons ed_str (eds_cons ed_str eds_nil)))) ?_) (eds_cons (ED.to (ed_canR (sd := .list [.str "u"]) (r := ["u"]) Ca hr fairM (asksM (by decide +kernel) (by decide +kernel) (by decide)) bookM lineM rfl (ed_var 8 rfl hm13) (ed_var 9 rfl hn) (ed_lst (eds_cons ed_str eds_nil))) ?_) eds_nil)))) x13.gh fun gv14 G14 H14 y14 hg14 => ?_)
    · exact seats_of (g := [("a", "u"), ("b", "t")]) (by decide +kernel) (.refl _) (by unfold Asc; decide +kernel)
    · rw [show (matchM (mayOf ksM lnX) 8 ["u"] []).isSome = true by decide +kernel]
    have x14 := x13.trans y14
    have hm14 := hm13.up y14.gg
    have hn14 := hn.up y14.gg
    refine b_cons (s_setV 2 c_law_alike_right.nd (w_catO (es' := [.int 2]) (by decide) (ed_var 2 rfl hg14) (ed_lst (eds_cons (ED.to (ed_mostR (ld := lL lnX) Mo hr fairM gndM (by decide) bookM line_soft (ed_var 8 rfl hm14) (ED.to (ed_call (E := eN) (D.lists 3 (by decide)) hr pasN (eds_cons (ed_var 9 rfl hn14) eds_nil) ⟨_, rfl, rfl, rfl⟩) rfl)) (by rw [mostX]; rfl)) eds_nil)) x14.gh fun gb G15 H15 y15 fb Ob => ?_))
    have x15 := x14.trans y15
    have bH : H gb = none := x14.hh.free fb
    refine b_cons (s_app (dd := rD [("a", "u")]) 2 Ob rfl (by decide) (ED.to (ed_seatingR (sd := .tuple [.str "u"]) (r := ["u"]) Se hr fairM (asksM (by decide +kernel) (by decide +kernel) (by decide)) bookM lineM rfl (ed_var 8 rfl (hm14.up y15.gg)) (ed_var 9 rfl (hn14.up y15.gg)) (ed_tup (eds_cons ed_str eds_nil))) ?_) x15.gh fun G16 H16 y16 Ob2 => ?_)
    · exact seats_of (g := [("a", "u")]) (by decide +kernel) (.refl _) (by unfold Asc; decide +kernel)
    have x16 : Ext G H G16 H16 := ExtM.after x15 y16 fun b z => by rw [z]; exact bH
    obtain ⟨G17, x17, s17, hg17, _⟩ := Ob2.shut x16 bH
    have s1317 : Same G13 G17 := y14.gg.trans (y15.gg.trans (y16.gg.trans s17))
    refine b_cons (s_set 3 c_law_alike_right.nd (ed_catL (es' := [rD [("a", "u"), ("b", "t")], .bool true, .int 2, rD [("a", "u")]]) (by decide) (ed_var 3 rfl (ho13.up s1317)) (ed_lst (eds_cons (ed_tup (eds_cons (ed_tup (eds_cons ed_str (eds_cons ed_str eds_nil))) (eds_cons (ed_tup (eds_cons ed_str (eds_cons ed_str eds_nil))) eds_nil))) (eds_cons ed_bl (eds_cons ed_int (eds_cons (ed_tup (eds_cons (ed_tup (eds_cons ed_str (eds_cons ed_str eds_nil))) eds_nil)) eds_nil)))))) x17.gh fun ov18 G18 H18 y18 ho18 => ?_)
    have x18 := x17.trans y18
    have s418 : Same G4 G18 := s411.trans ((y12.gg.trans y13.gg).trans (s1317.trans y18.gg))
    refine b_one (s_ret (ed_and (k := true) (ed_call (E := eN) (D.same 4 (by decide)) hr pasN (eds_cons (ed_var 2 rfl (hg17.up y18.gg)) (eds_cons (ed_var 3 rfl ho18) eds_nil)) ⟨_, rfl, by decide +kernel, rfl⟩) (fun _ => ed_one (ed_asked D.asked hr okO (ev_var 4 rfl (hh4.up s418)) (ed_var 5 rfl (hl.up s418)))) fun h => by cases h) x18.gh (RD.ext q x18))
end
end Wk
set_option maxHeartbeats 4000000
/-! What the written top gives, and the law's promise from it. -/
namespace Wk
open PySem PySem.Spec PyProof.Rows L2 Km PySem.Nt
/-- a def that stands at f -/
structure DefAt (K : PySem.W.Frag) (x : Str) (st : Stmt) (f : Addr) : Prop where
  ns : PySem.W.nsIn K mainGlobals x = some (some (.ref f))
  fn : ∃ fd, Fun K x x st f fd
section
variable {w : World} {K : PySem.W.Frag} {h base : Heap} {mg : Str → Option Value} {P : Program}
theorem def_at {x : Str} {st : Stmt} {f : Addr} {oc : Value} {od an : Option Addr} {osl : Array (Option Value)} {kV doc pm cdv ct : Value} (a : PySem.W.nsIn K mainGlobals x = some (some (.ref f)))
    (l : K.lookup f = some ⟨oc, od, .func (PySem.W.fnOf x x (defArgs st) (defBody st) (defScope st) .none kV doc pm an cdv ct), osl⟩) (c : PySem.W.codeIn K cdv x = true) (k : PySem.W.keepIn K (.ref f) = true) : DefAt K x st f := ⟨a, _, fun_mk l c k⟩
theorem DefAt.cal {x : Str} {st : Stmt} {f : Addr} {ps : List Str} {k : Nat} {sp : Sp} {CX : CXT} (d : DefAt K x st f) (X : K.In h) (G : h.Ns mainGlobals mg) (hb : ∀ fd, Fun K x x st f fd → Binds K fd ps []) (ok : ∀ fd, Fun K x x st f fd → FnOk P w K mg base CX k f fd ps sp) : Cal P w K mg base CX x ps k sp := by
  obtain ⟨fd, F⟩ := d.fn
  exact Wk.cal F (PySem.W.mg_of X G d.ns) (hb fd F) (ok fd F)
theorem DefAt.calR {x : Str} {st : Stmt} {f : Addr} {ps ks : List Str} {k : Nat} {sp : Sp} {CX : CXT} (d : DefAt K x st f) (X : K.In h) (G : h.Ns mainGlobals mg) (hb : ∀ fd, Fun K x x st f fd → KBinds K fd ps ks (fun us ws => us ++ ws.reverse) (fun vs zs => vs ++ zs.reverse)) (ok : ∀ fd, Fun K x x st f fd → FnOk P w K mg base CX k f fd ps sp) : CalR P w K mg base CX x ps ks k sp := by
  obtain ⟨fd, F⟩ := d.fn
  exact ⟨f, fd, ok fd F, PySem.W.mg_of X G d.ns, F.kp, hb fd F⟩
theorem vals_rev : ∀ {vs : List V} {us : List Value}, Vals vs us → Vals vs.reverse us.reverse
  | _, _, .nil => .nil
  | _, _, .cons h t => by
    rw [List.reverse_cons, List.reverse_cons]
    exact (vals_rev t).append (.cons h .nil)
theorem Hands.mono {C : Addr} {j k : Nat} (D : Hands P w K mg base C j) (h : j ≤ k) : Hands P w K mg base C k :=
  ⟨D.can.mono h, D.sea.mono h, D.most.mono h, fun n q => (D.same n q).mono h, fun n q => (D.lists n q).mono h, D.host.mono h, D.queue.mono h, D.heard.mono h, D.asked.mono h⟩
/-- calls by keywords alone, the last parameter first: three -/
theorem kb_three {x a b c : Str} {st : Stmt} {f : Addr} {fd : FuncData} (F : Fun K x x st f fd)
    (h : ∀ (kV doc pm : Value) (an : Option Addr) (cdv ct : Value) (us ws : List Value), (us ++ ws.reverse).length = 3 → bindArgs (PySem.W.fnOf x x (defArgs st) (defBody st) (defScope st) .none kV doc pm an cdv ct) ⟨us, [c, b, a].zip ws⟩ = pure ([a, b, c].zip (us ++ ws.reverse))) : KBinds K fd [a, b, c] [c, b, a] (fun us ws => us ++ ws.reverse) (fun vs zs => vs ++ zs.reverse) := by
  obtain ⟨oc, od, kV, doc, pm, an, cdv, ct, osl, rfl, lk, hcd⟩ := F.ex
  exact ⟨fun s us ws _ hl => .of_eq (h kV doc pm an cdv ct us ws hl), fun r1 r2 => r1.append (vals_rev r2)⟩
theorem kb_two {x a b : Str} {st : Stmt} {f : Addr} {fd : FuncData} (F : Fun K x x st f fd)
    (h : ∀ (kV doc pm : Value) (an : Option Addr) (cdv ct : Value) (us ws : List Value), (us ++ ws.reverse).length = 2 → bindArgs (PySem.W.fnOf x x (defArgs st) (defBody st) (defScope st) .none kV doc pm an cdv ct) ⟨us, [b, a].zip ws⟩ = pure ([a, b].zip (us ++ ws.reverse))) : KBinds K fd [a, b] [b, a] (fun us ws => us ++ ws.reverse) (fun vs zs => vs ++ zs.reverse) := by
  obtain ⟨oc, od, kV, doc, pm, an, cdv, ct, osl, rfl, lk, hcd⟩ := F.ex
  exact ⟨fun s us ws _ hl => .of_eq (h kV doc pm an cdv ct us ws hl), fun r1 r2 => r1.append (vals_rev r2)⟩
/-- how three values come: so many by place, the rest by name -/
theorem len_three {us ws : List Value} (h : (us ++ ws.reverse).length = 3) : (∃ u v w, us = [u, v, w] ∧ ws = []) ∨ (∃ u v w, us = [u, v] ∧ ws = [w]) ∨ (∃ u v w, us = [u] ∧ ws = [w, v]) ∨ ∃ u v w, us = [] ∧ ws = [w, v, u] := by
  rw [List.length_append, List.length_reverse] at h
  match us, ws, h with
  | [u, v, w], [], _ => exact .inl ⟨u, v, w, rfl, rfl⟩
  | [u, v], [w], _ => exact .inr (.inl ⟨u, v, w, rfl, rfl⟩)
  | [u], [w, v], _ => exact .inr (.inr (.inl ⟨u, v, w, rfl, rfl⟩))
  | [], [w, v, u], _ => exact .inr (.inr (.inr ⟨u, v, w, rfl, rfl⟩))
  | [], [], h => simp at h
  | [], [_], h => simp at h
  | [], [_, _], h => simp at h
  | [], _ :: _ :: _ :: _ :: _, h => simp at h
  | [_], [], h => simp at h
  | [_], [_], h => simp at h
  | [_], _ :: _ :: _ :: _, h => simp only [List.length_cons, List.length_nil] at h; omega
  | [_, _], [], h => simp at h
  | [_, _], _ :: _ :: _, h => simp only [List.length_cons, List.length_nil] at h; omega
  | [_, _, _], _ :: _, h => simp only [List.length_cons, List.length_nil] at h; omega
  | _ :: _ :: _ :: _ :: _, _, h => simp only [List.length_cons] at h; omega
theorem len_two {us ws : List Value} (h : (us ++ ws.reverse).length = 2) : (∃ u v, us = [u, v] ∧ ws = []) ∨ (∃ u v, us = [u] ∧ ws = [v]) ∨ ∃ u v, us = [] ∧ ws = [v, u] := by
  rw [List.length_append, List.length_reverse] at h
  match us, ws, h with
  | [u, v], [], _ => exact .inl ⟨u, v, rfl, rfl⟩
  | [u], [v], _ => exact .inr (.inl ⟨u, v, rfl, rfl⟩)
  | [], [v, u], _ => exact .inr (.inr ⟨u, v, rfl, rfl⟩)
  | [], [], h => simp at h
  | [], [_], h => simp at h
  | [], _ :: _ :: _ :: _, h => simp only [List.length_cons, List.length_nil] at h; omega
  | [_], [], h => simp at h
  | [_], _ :: _ :: _, h => simp only [List.length_cons, List.length_nil] at h; omega
  | [_, _], _ :: _, h => simp only [List.length_cons, List.length_nil] at h; omega
  | _ :: _ :: _ :: _, _, h => simp only [List.length_cons] at h; omega
theorem bi_of {tL tO tP : Tok} (X : K.In h) (G : h.Ns mainGlobals mg) (z0 : PySem.W.nsIn K mainGlobals "isinstance" = some none) (z1 : PySem.W.nsIn K mainGlobals "len" = some none) (z2 : PySem.W.nsIn K mainGlobals "all" = some none) (z3 : PySem.W.nsIn K mainGlobals "zip" = some none) (z4 : PySem.W.nsIn K mainGlobals "tuple" = some none) (z5 : PySem.W.nsIn K mainGlobals "list" = some none) (z6 : PySem.W.nsIn K mainGlobals "sorted" = some none) (z7 : PySem.W.nsIn K mainGlobals "set" = some none) (z8 : PySem.W.nsIn K mainGlobals "dict" = some none) (z9 : PySem.W.nsIn K mainGlobals "sum" = some none) (z10 : PySem.W.nsIn K mainGlobals "int" = some none) (z11 : PySem.W.nsIn K mainGlobals "range" = some none) (z12 : PySem.W.nsIn K mainGlobals "abs" = some none) (z13 : PySem.W.nsIn K mainGlobals "enumerate" = some none) (z14 : PySem.W.nsIn K mainGlobals "max" = some none) (z15 : PySem.W.nsIn K mainGlobals "bool" = some none) (z16 : PySem.W.nsIn K mainGlobals "str" = some none)
    (y0 : PySem.W.nsIn K mainGlobals "LETTERS" = some (some (.str "abcdefghijklmnopqrstuvwxyz" tL))) (y1 : PySem.W.nsIn K mainGlobals "LONGEST" = some (some (.int 8 tO))) (y2 : PySem.W.nsIn K mainGlobals "PAIR" = some (some (.int 2 tP))) : Bi mg :=
  ⟨PySem.W.mg_none_of X G z0, PySem.W.mg_none_of X G z1, PySem.W.mg_none_of X G z2, PySem.W.mg_none_of X G z3, PySem.W.mg_none_of X G z4, PySem.W.mg_none_of X G z5, PySem.W.mg_none_of X G z6, PySem.W.mg_none_of X G z7, PySem.W.mg_none_of X G z8, PySem.W.mg_none_of X G z9, PySem.W.mg_none_of X G z10, PySem.W.mg_none_of X G z11, PySem.W.mg_none_of X G z12, PySem.W.mg_none_of X G z13, PySem.W.mg_none_of X G z14, PySem.W.mg_none_of X G z15, PySem.W.mg_none_of X G z16, ⟨_, PySem.W.mg_of X G y0⟩, ⟨_, PySem.W.mg_of X G y1⟩, ⟨_, PySem.W.mg_of X G y2⟩⟩
/-- an except that names the class takes its own errors -/
theorem exm_own {S : Addr} (h1 : PySem.W.subIn K (.ref S) (.type "BaseException") = some true) (h2 : PySem.W.isClsIn K S = true) (h3 : PySem.W.typeIn K (.ref S) = some (.type "type")) (h4 : PySem.W.subIn K (.ref S) (.ref S) = some true) : PySem.W.exmOne K (.ref S) (.ref S) = some true := by
  have a1 : (PySem.W.subIn K (.ref S) (.type "BaseException") == some true) = true := by rw [h1]; rfl
  have a2 : ((PySem.W.clsIn K S).isSome && PySem.W.typeIn K (.ref S) == some (.type "type")) = true := by
    have a3 : (PySem.W.clsIn K S).isSome = true := h2
    rw [a3, h3]
    rfl
  refine Eq.trans (if_pos a1) ?_
  exact Eq.trans (if_pos a2) h4
abbrev PP : Program := PySem.Challenge.rw_masksmoved_k08_whole_which_can_be_seated.prog
theorem all_mk {fa C fI : Addr} {f_is_pair f_is_name f_is_rising f_set_of f_tupled f_masks_table f_may_table f_are_names f_is_seating f_check_tasks f_seat f_matched f_can_seat f_a_seating f_is_seating_of f_most_seated f__law_box f__law_take f__law_cells f__law_of f__law_same f__law_lists f__law_mixed f__law_tags f__law_other f__law_host f__law_queue f__law_web f__law_drawn f__law_all f__law_lots f__law_heard f__law_asked f__law_alike_right f__law_by_hand_right f__law_right fL : Addr} (X : K.In h) (G : h.Ns mainGlobals mg) (hfa : mg "law" = some (.ref fa)) (B : Bi mg) (N : NoTxt PP K mg C fI) (LE : mg "LookupError" = none)
    (d_is_pair : DefAt K "is_pair" sis_pair f_is_pair)
    (d_is_name : DefAt K "is_name" sis_name f_is_name)
    (d_is_rising : DefAt K "is_rising" sis_rising f_is_rising)
    (d_set_of : DefAt K "set_of" sset_of f_set_of)
    (d_tupled : DefAt K "tupled" stupled f_tupled)
    (d_masks_table : DefAt K "masks_table" smasks_table f_masks_table)
    (d_may_table : DefAt K "may_table" smay_table f_may_table)
    (d_are_names : DefAt K "are_names" sare_names f_are_names)
    (d_is_seating : DefAt K "is_seating" sis_seating f_is_seating)
    (d_check_tasks : DefAt K "check_tasks" scheck_tasks f_check_tasks)
    (d_seat : DefAt K "seat" sseat f_seat)
    (d_matched : DefAt K "matched" smatched f_matched)
    (d_can_seat : DefAt K "can_seat" scan_seat f_can_seat)
    (d_a_seating : DefAt K "a_seating" sa_seating f_a_seating)
    (d_is_seating_of : DefAt K "is_seating_of" sis_seating_of f_is_seating_of)
    (d_most_seated : DefAt K "most_seated" smost_seated f_most_seated)
    (d__law_box : DefAt K "_law_box" s_law_box f__law_box)
    (d__law_take : DefAt K "_law_take" s_law_take f__law_take)
    (d__law_cells : DefAt K "_law_cells" s_law_cells f__law_cells)
    (d__law_of : DefAt K "_law_of" s_law_of f__law_of)
    (d__law_same : DefAt K "_law_same" s_law_same f__law_same)
    (d__law_lists : DefAt K "_law_lists" s_law_lists f__law_lists)
    (d__law_mixed : DefAt K "_law_mixed" s_law_mixed f__law_mixed)
    (d__law_tags : DefAt K "_law_tags" s_law_tags f__law_tags)
    (d__law_other : DefAt K "_law_other" s_law_other f__law_other)
    (d__law_host : DefAt K "_law_host" s_law_host f__law_host)
    (d__law_queue : DefAt K "_law_queue" s_law_queue f__law_queue)
    (d__law_web : DefAt K "_law_web" s_law_web f__law_web)
    (d__law_drawn : DefAt K "_law_drawn" s_law_drawn f__law_drawn)
    (d__law_all : DefAt K "_law_all" s_law_all f__law_all)
    (d__law_lots : DefAt K "_law_lots" s_law_lots f__law_lots)
    (d__law_heard : DefAt K "_law_heard" s_law_heard f__law_heard)
    (d__law_asked : DefAt K "_law_asked" s_law_asked f__law_asked)
    (d__law_alike_right : DefAt K "_law_alike_right" s_law_alike_right f__law_alike_right)
    (d__law_by_hand_right : DefAt K "_law_by_hand_right" s_law_by_hand_right f__law_by_hand_right)
    (d__law_right : DefAt K "_law_right" s_law_right f__law_right)
    (d_law : DefAt K "law" slaw fL) : ∃ fd : FuncData, (∀ (s : Shared) (v : Value), BindsTo s fd ⟨[v], []⟩ [("_law_script", v)]) ∧ ∀ base : Heap, K.In base → base.Ns mainGlobals mg → FnOk PP w K mg base CX0 16 fa fd ["_law_script"] (SpLaw K) := by
  obtain ⟨fdL, FL⟩ := d_law.fn
  have e := hfa.symm.trans (PySem.W.mg_of X G d_law.ns)
  cases e
  refine ⟨fdL, ?_, fun base KB GB => ?_⟩
  · obtain ⟨oc, od, kV, doc, pm, an, cdv, ct, osl, rfl, lk, hcd⟩ := FL.ex
    exact fun s v => .of_eq rfl
  · have c_is_pair : Cal PP w K mg base CX0 "is_pair" ["value"] 1 (PureSp RPair) := d_is_pair.cal X G (fun fd F => F.binds fun _ _ _ _ _ _ us hl => match us, hl with | [_], _ => rfl) fun fd F => ok_is_pair B F
    have c_is_name : Cal PP w K mg base CX0 "is_name" ["value"] 1 (PureSp RName) := d_is_name.cal X G (fun fd F => F.binds fun _ _ _ _ _ _ us hl => match us, hl with | [_], _ => rfl) fun fd F => ok_is_name B F
    have c_is_rising : Cal PP w K mg base CX0 "is_rising" ["row"] 1 (PureSp RRise) := d_is_rising.cal X G (fun fd F => F.binds fun _ _ _ _ _ _ us hl => match us, hl with | [_], _ => rfl) fun fd F => ok_is_rising B F
    have c_set_of : Cal PP w K mg base CX0 "set_of" ["some"] 1 (PureSp RSetOf) := d_set_of.cal X G (fun fd F => F.binds fun _ _ _ _ _ _ us hl => match us, hl with | [_], _ => rfl) fun fd F => ok_set_of B F
    have c_tupled : Cal PP w K mg base CX0 "tupled" ["value"] 4 (SpTup 3) := d_tupled.cal X G (fun fd F => F.binds fun _ _ _ _ _ _ us hl => match us, hl with | [_], _ => rfl) fun fd F => ok_tupled B F (PySem.W.mg_of X G d_tupled.ns) (F.binds (fun _ _ _ _ _ _ us hl => match us, hl with | [_], _ => rfl)) 3
    have c_masks_table : Cal PP w K mg base CX0 "masks_table" ["book"] 5 SpMasks := d_masks_table.cal X G (fun fd F => F.binds fun _ _ _ _ _ _ us hl => match us, hl with | [_], _ => rfl) fun fd F => ok_masks_table B F c_tupled
    have c_may_table : Cal PP w K mg base CX0 "may_table" ["book", "ready"] 6 SpMay := d_may_table.cal X G (fun fd F => F.binds fun _ _ _ _ _ _ us hl => match us, hl with | [_, _], _ => rfl) fun fd F => ok_may_table B F c_masks_table
    have c_are_names : Cal PP w K mg base CX0 "are_names" ["thing"] 2 (PureSp RAre) := d_are_names.cal X G (fun fd F => F.binds fun _ _ _ _ _ _ us hl => match us, hl with | [_], _ => rfl) fun fd F => ok_are_names B F c_is_pair c_is_name
    have c_is_seating : Cal PP w K mg base CX0 "is_seating" ["book", "ready", "thing"] 7 (PureSp RSeat) := d_is_seating.cal X G (fun fd F => F.binds fun _ _ _ _ _ _ us hl => match us, hl with | [_, _, _], _ => rfl) fun fd F => ok_is_seating B F (c_are_names.mono (by decide)) (c_is_rising.mono (by decide)) c_may_table (c_set_of.mono (by decide))
    have c_check_tasks : Cal PP w K mg base (L2.CX PP w) "check_tasks" ["ready", "some"] 3 (SpCheck C) := d_check_tasks.cal X G (fun fd F => F.binds fun _ _ _ _ _ _ us hl => match us, hl with | [_, _], _ => rfl) fun fd F => ok_check_tasks B F N
    have c_seat : Cal PP w K mg base CX0 "seat" ["table", "found", "task", "tried"] 9 (SpSeat 8) := d_seat.cal X G (fun fd F => F.binds fun _ _ _ _ _ _ us hl => match us, hl with | [_, _, _, _], _ => rfl) fun fd F => ok_seat B F (PySem.W.mg_of X G d_seat.ns) (F.binds (fun _ _ _ _ _ _ us hl => match us, hl with | [_, _, _, _], _ => rfl)) 8
    have c_matched : Cal PP w K mg base CX0 "matched" ["table", "some"] 10 SpMatched := d_matched.cal X G (fun fd F => F.binds fun _ _ _ _ _ _ us hl => match us, hl with | [_, _], _ => rfl) fun fd F => ok_matched B F c_seat
    have c_can_seat : Cal PP w K mg base (L2.CX PP w) "can_seat" ["book", "ready", "some"] 11 (SpCan C) := d_can_seat.cal X G (fun fd F => F.binds fun _ _ _ _ _ _ us hl => match us, hl with | [_, _, _], _ => rfl) fun fd F => ok_can_seat B F (c_check_tasks.mono (by decide)) (c_may_table.mono (by decide)) c_matched
    have c_a_seating : Cal PP w K mg base (L2.CX PP w) "a_seating" ["book", "ready", "some"] 11 (SpSeating C) := d_a_seating.cal X G (fun fd F => F.binds fun _ _ _ _ _ _ us hl => match us, hl with | [_, _, _], _ => rfl) fun fd F => ok_a_seating B F (c_check_tasks.mono (by decide)) (c_may_table.mono (by decide)) c_matched
    have c_is_seating_of : Cal PP w K mg base (L2.CX PP w) "is_seating_of" ["book", "ready", "some", "thing"] 11 (SpSeatingOf C) := d_is_seating_of.cal X G (fun fd F => F.binds fun _ _ _ _ _ _ us hl => match us, hl with | [_, _, _, _], _ => rfl) fun fd F => ok_is_seating_of B F (c_check_tasks.mono (by decide)) (c_is_seating.mono (by decide)) (c_set_of.mono (by decide)) (c_tupled.mono (by decide))
    have c_most_seated : Cal PP w K mg base CX0 "most_seated" ["book", "ready"] 10 SpMost := d_most_seated.cal X G (fun fd F => F.binds fun _ _ _ _ _ _ us hl => match us, hl with | [_, _], _ => rfl) fun fd F => ok_most_seated B F (c_may_table.mono (by decide)) c_seat
    have c__law_box : Cal PP w K mg base CX0 "_law_box" ["_law_script", "_law_k"] 1 SpBox := d__law_box.cal X G (fun fd F => F.binds fun _ _ _ _ _ _ us hl => match us, hl with | [_, _], _ => rfl) fun fd F => ok_box B F
    have c__law_take : Cal PP w K mg base CX0 "_law_take" ["_law_urn", "_law_low_so"] 1 SpTake := d__law_take.cal X G (fun fd F => F.binds fun _ _ _ _ _ _ us hl => match us, hl with | [_, _], _ => rfl) fun fd F => ok_take B F
    have c__law_cells : Cal PP w K mg base CX0 "_law_cells" ["_law_script", "_law_top"] 1 (SpCells K) := d__law_cells.cal X G (fun fd F => F.binds fun _ _ _ _ _ _ us hl => match us, hl with | [_, _], _ => rfl) fun fd F => ok_cells B F
    have c__law_of : Cal PP w K mg base CX0 "_law_of" ["_law_urn", "_law_some_so"] 2 SpOf := d__law_of.cal X G (fun fd F => F.binds fun _ _ _ _ _ _ us hl => match us, hl with | [_, _], _ => rfl) fun fd F => ok_of B F c__law_take
    have c__law_same : ∀ n : Nat, Cal PP w K mg base CX0 "_law_same" ["_law_got", "_law_goal"] (n + 1) (SpSame n) := fun n => d__law_same.cal X G (fun fd F => F.binds fun _ _ _ _ _ _ us hl => match us, hl with | [_, _], _ => rfl) fun fd F => ok_same B F (PySem.W.mg_of X G d__law_same.ns) (F.binds (fun _ _ _ _ _ _ us hl => match us, hl with | [_, _], _ => rfl)) n
    have c__law_lists : ∀ n : Nat, Cal PP w K mg base CX0 "_law_lists" ["_law_thing_so"] (n + 1) (SpLists n) := fun n => d__law_lists.cal X G (fun fd F => F.binds fun _ _ _ _ _ _ us hl => match us, hl with | [_], _ => rfl) fun fd F => ok_lists B F (PySem.W.mg_of X G d__law_lists.ns) (F.binds (fun _ _ _ _ _ _ us hl => match us, hl with | [_], _ => rfl)) n
    have c__law_mixed : Cal PP w K mg base CX0 "_law_mixed" ["_law_urn", "_law_pool"] 2 SpMixed := d__law_mixed.cal X G (fun fd F => F.binds fun _ _ _ _ _ _ us hl => match us, hl with | [_, _], _ => rfl) fun fd F => ok_mixed B F c__law_take
    have c__law_tags : Cal PP w K mg base CX0 "_law_tags" ["_law_urn", "_law_many_so"] 3 SpTags := d__law_tags.cal X G (fun fd F => F.binds fun _ _ _ _ _ _ us hl => match us, hl with | [_, _], _ => rfl) fun fd F => ok_tags B F (c__law_take.mono (by decide)) c__law_of
    have c__law_other : Cal PP w K mg base CX0 "_law_other" ["_law_tags_here"] 1 (PureSp ROther) := d__law_other.cal X G (fun fd F => F.binds fun _ _ _ _ _ _ us hl => match us, hl with | [_], _ => rfl) fun fd F => ok_other B F
    have c__law_host : Cal PP w K mg base CX0 "_law_host" ["_law_flat"] 1 SpHost := d__law_host.cal X G (fun fd F => F.binds fun _ _ _ _ _ _ us hl => match us, hl with | [_], _ => rfl) fun fd F => ok_host B F
    have c__law_queue : Cal PP w K mg base CX0 "_law_queue" ["_law_flat"] 1 (PureSp RQueue) := d__law_queue.cal X G (fun fd F => F.binds fun _ _ _ _ _ _ us hl => match us, hl with | [_], _ => rfl) fun fd F => ok_queue B F
    have c__law_web : Cal PP w K mg base CX0 "_law_web" ["_law_urn", "_law_wide_so", "_law_many_so"] 4 SpWeb := d__law_web.cal X G (fun fd F => F.binds fun _ _ _ _ _ _ us hl => match us, hl with | [_, _, _], _ => rfl) fun fd F => ok_web B F (c__law_take.mono (by decide)) c__law_tags (c__law_mixed.mono (by decide))
    have c__law_drawn : Cal PP w K mg base CX0 "_law_drawn" ["_law_urn", "_law_host_here", "_law_most_so"] 4 SpDrawn := d__law_drawn.cal X G (fun fd F => F.binds fun _ _ _ _ _ _ us hl => match us, hl with | [_, _, _], _ => rfl) fun fd F => ok_drawn B F (c__law_take.mono (by decide)) (c__law_of.mono (by decide)) (c__law_mixed.mono (by decide))
    have c__law_all : Cal PP w K mg base CX0 "_law_all" ["_law_host_here", "_law_line_so"] 1 SpAll := d__law_all.cal X G (fun fd F => F.binds fun _ _ _ _ _ _ us hl => match us, hl with | [_, _], _ => rfl) fun fd F => ok_all B F
    have c__law_lots : Cal PP w K mg base CX0 "_law_lots" ["_law_tags_here"] 1 SpLots := d__law_lots.cal X G (fun fd F => F.binds fun _ _ _ _ _ _ us hl => match us, hl with | [_], _ => rfl) fun fd F => ok_lots B F
    have c__law_heard : Cal PP w K mg base CX0 "_law_heard" ["_law_door", "_law_host_here", "_law_line_so", "_law_bits"] 12 SpHeard := d__law_heard.cal X G (fun fd F => F.binds fun _ _ _ _ _ _ us hl => match us, hl with | [_, _, _, _], _ => rfl) fun fd F => ok_heard B LE N F c_can_seat c_a_seating
    have c__law_asked : Cal PP w K mg base CX0 "_law_asked" ["_law_host_here", "_law_line_so"] 12 SpAsked := d__law_asked.cal X G (fun fd F => F.binds fun _ _ _ _ _ _ us hl => match us, hl with | [_, _], _ => rfl) fun fd F => ok_asked B F ⟨c_can_seat, c_a_seating, c_is_seating_of, c_is_seating.mono (by decide), c_most_seated.mono (by decide), fun n h => (c__law_same n).mono (by omega), fun n h => (c__law_lists n).mono (by omega), c__law_all.mono (by decide), c__law_lots.mono (by decide)⟩
    have k_can : CalR PP w K mg base (L2.CX PP w) "can_seat" ["book", "ready", "some"] ["some", "ready", "book"] 11 (SpCan C) := d_can_seat.calR X G (fun fd F => kb_three F fun _ _ _ _ _ _ us ws hl => by
      rcases len_three hl with ⟨_, _, _, rfl, rfl⟩ | ⟨_, _, _, rfl, rfl⟩ | ⟨_, _, _, rfl, rfl⟩ | ⟨_, _, _, rfl, rfl⟩ <;> rfl) fun fd F => ok_can_seat B F (c_check_tasks.mono (by decide)) (c_may_table.mono (by decide)) c_matched
    have k_sea : CalR PP w K mg base (L2.CX PP w) "a_seating" ["book", "ready", "some"] ["some", "ready", "book"] 11 (SpSeating C) := d_a_seating.calR X G (fun fd F => kb_three F fun _ _ _ _ _ _ us ws hl => by
      rcases len_three hl with ⟨_, _, _, rfl, rfl⟩ | ⟨_, _, _, rfl, rfl⟩ | ⟨_, _, _, rfl, rfl⟩ | ⟨_, _, _, rfl, rfl⟩ <;> rfl) fun fd F => ok_a_seating B F (c_check_tasks.mono (by decide)) (c_may_table.mono (by decide)) c_matched
    have k_most : CalR PP w K mg base CX0 "most_seated" ["book", "ready"] ["ready", "book"] 10 SpMost := d_most_seated.calR X G (fun fd F => kb_two F fun _ _ _ _ _ _ us ws hl => by
      rcases len_two hl with ⟨_, _, rfl, rfl⟩ | ⟨_, _, rfl, rfl⟩ | ⟨_, _, rfl, rfl⟩ <;> rfl) fun fd F => ok_most_seated B F (c_may_table.mono (by decide)) c_seat
    have hs : Hands PP w K mg base C 12 := ⟨c_can_seat.mono (by decide), c_a_seating.mono (by decide), c_most_seated.mono (by decide), fun n h => (c__law_same n).mono (by omega), fun n h => (c__law_lists n).mono (by omega), c__law_host.mono (by decide), c__law_queue.mono (by decide), c__law_heard, c__law_asked⟩
    have c__law_alike_right : Cal PP w K mg base CX0 "_law_alike_right" ["_law_host_here", "_law_line_so"] 14 (PureSp RAlike) := d__law_alike_right.cal X G (fun fd F => F.binds fun _ _ _ _ _ _ us hl => match us, hl with | [_, _], _ => rfl) fun fd F => ok_alike B F (hs.mono (by decide)) (k_can.mono (by decide)) (k_sea.mono (by decide)) (k_most.mono (by decide))
    have c__law_by_hand_right : Cal PP w K mg base CX0 "_law_by_hand_right" [] 15 SpYes := d__law_by_hand_right.cal X G (fun fd F => F.binds fun _ _ _ _ _ _ us hl => match us, hl with | [], _ => rfl) fun fd F => ok_by_hand B F (hs.mono (by decide)) c__law_alike_right
    have c__law_right : Cal PP w K mg base CX0 "_law_right" ["_law_urn"] 14 SpRight := d__law_right.cal X G (fun fd F => F.binds fun _ _ _ _ _ _ us hl => match us, hl with | [_], _ => rfl) fun fd F => ok_right B F ⟨c__law_take.mono (by decide), c__law_web.mono (by decide), c__law_drawn.mono (by decide), c__law_other.mono (by decide), c__law_heard.mono (by decide), c__law_asked.mono (by decide), fun n h => (c__law_same n).mono (by omega)⟩
    exact ok_law B FL (c__law_cells.mono (by decide)) c__law_by_hand_right (c__law_right.mono (by decide)) (c__law_box.mono (by decide))
end
end Wk
set_option maxHeartbeats 4000000
/-! The end. -/
namespace Wk
open PySem PySem.Spec PyProof.Rows L2 Km PySem.Nt
section
variable {K : PySem.W.Frag} {h : Heap} {mg : Str → Option Value}
theorem kit_le {C : Addr} (leC : PySem.W.subIn K (.ref C) (.type "LookupError") = some true) : PySem.W.kitOne K (.ref C) (.type "LookupError") = some true := by
  have e : ¬ ((Value.ref C == Value.type "LookupError") = true) := by
    intro z
    exact Value.noConfusion (eq_of_beq z)
  refine Eq.trans (if_neg e) ?_
  show (if PySem.W.kitMeta "LookupError" = true then PySem.W.subIn K (.ref C) (.type "LookupError") else none) = some true
  have m : PySem.W.kitMeta "LookupError" = true := by decide +kernel
  rw [if_pos m]
  exact leC
theorem no_of {C fI cc cda : Addr} (X : K.In h) (G : h.Ns mainGlobals mg) {nm q : Str} {N : Addr} {bs sub : List Value} {sn : List Str} {ab : Bool} {col : Option Bool} {dd : Option Addr} {k0 k1 k2 k3 k5 : Option Value}
    {oc : Value} {od : Option Addr} {doc pm : Value} {an : Option Addr} {ct : Value} {osl : Array (Option Value)} {vs : Array Value} {file : Str} {tf : Tok} {ccl cl : Value} {cdd cld : Option Addr} {ccs csl : Array (Option Value)}
    (gC : PySem.W.nsIn K mainGlobals "NoTask" = some (some (.ref C)))
    (cls : K.lookup C = some (excClassObj nm q C N bs leTail true sn sub ab col dd k0 k1 k2 k3 k5 "LookupError.__new__"))
    (sa : PySem.W.findIn K (.ref C) "__setattr__" = some (some (.builtin "object.__setattr__")))
    (ga : PySem.W.findIn K (.ref C) "__getattribute__" = some (some (.builtin "BaseException.__getattribute__")))
    (gg : PySem.W.findIn K (.ref C) "__getattr__" = some none)
    (noN : PySem.W.findIn K (.ref C) "name" = some none)
    (iC : PySem.W.findIn K (.ref C) "__init__" = some (some (.ref fI)))
    (tC : PySem.W.typeIn K (.ref fI) = some (.type "function"))
    (kC : PySem.W.keepIn K (.ref C) = true)
    (exC : PySem.W.subIn K (.ref C) (.type "BaseException") = some true)
    (leC : PySem.W.subIn K (.ref C) (.type "LookupError") = some true)
    (tyC : PySem.W.typeIn K (.ref C) = some (.type "type"))
    (hdC : PySem.W.hasDictIn K C = true)
    (isC : PySem.W.isClsIn K C = true)
    (sbC : PySem.W.subIn K (.ref C) (.ref C) = some true)
    (clA : PySem.W.findIn K (.ref C) "__class__" = some (some (.builtin "object.__class__")))
    (clN : PySem.W.specialIn K (.builtin "object.__class__") "__get__" = some (some (.builtin "getset_descriptor.__get__")))
    (clT : PySem.W.takesIn K (.builtin "object.__class__") = some true)
    (clM : PySem.W.mroIn K C (.type "object") = some true)
    (sup : PySem.W.nsIn K mainGlobals "super" = some none)
    (opq : PySem.W.nsIn K cStatics "thirdparty.any" = some none)
    (slf : PySem.W.mroIn K C (.ref C) = some true)
    (lI : K.lookup fI = some ⟨oc, od, .func (PySem.W.ksFn "__init__" "NoTask.__init__" (L2.defArgs initS) (L2.defBody initS) (L2.defScope initS) .none .none doc pm an (.ref cda) ct cc), osl⟩)
    (cI : PySem.W.codeIn K (.ref cda) "NoTask.__init__" = true)
    (lc : K.lookup cda = some ⟨ccl, cdd, .fields vs, ccs⟩) (fv : vs[2]? = some (.str file tf)) (ff : ((PP.main.file : Str) == file) = true)
    (lz : K.lookup cc = some ⟨cl, cld, .cell (some (.ref C)), csl⟩) : NoTxt PP K mg C fI where
  gC := PySem.W.mg_of X G gC
  cls := ⟨_, _, _, _, _, _, _, _, _, _, _, _, _, _, cls⟩
  sa := sa
  ga := ga
  gg := gg
  noN := noN
  iC := iC
  tC := tC
  kC := kC
  exC := exC
  leC := leC
  tyC := tyC
  hdC := hdC
  te := exm_own exC isC tyC sbC
  clA := clA
  clN := clN
  clT := clT
  clM := clM
  kLe := kit_le leC
  sup := PySem.W.mg_none_of X G sup
  opq := opq
  slf := slf
  top := by decide +kernel
  fn := ⟨_, _, _, _, _, _, _, _, _, _, _, _, _, _, _, _, _, _, lI, cI, lc, fv, ff, lz⟩
end
end Wk

open PySem PySem.W PyProof.Rows
set_option maxHeartbeats 0 in
theorem PySem.Challenge.cw_masksmoved_k08_whole_which_can_be_seated_holds : PySem.Challenge.rw_masksmoved_k08_whole_which_can_be_seated.Holds := by
  w_on; o_law; k_head; (case hw => w_witness2)
  k_fill
  refine L2.walk_of (l := PySem.Challenge.rw_masksmoved_k08_whole_which_can_be_seated) (n := 63) (k := 16) (x := "_law_script") (CX := fun _ => L2.CX0) (sp := fun w => Wk.SpLaw _) rfl (by decide) rfl ⟨rfl, by decide, by decide⟩ (fun w h Y => PySem.W.kIn_of Y) ?F (fun _ _ a ns hl _ hS => ⟨a, ns, rfl, hS, hl, fun _ => rfl⟩) (fun _ _ _ _ _ h => h)
  case F =>
    intro w mg fa h KX G hmg
    refine' Wk.all_mk KX G hmg (Wk.bi_of KX G ?z0 ?z1 ?z2 ?z3 ?z4 ?z5 ?z6 ?z7 ?z8 ?z9 ?z10 ?z11 ?z12 ?z13 ?z14 ?z15 ?z16 ?y0 ?y1 ?y2) (Wk.no_of KX G ?NgC ?Ncls ?Nsa ?Nga ?Ngg ?NnoN ?NiC ?NtC ?NkC ?NexC ?NleC ?NtyC ?NhdC ?NisC ?NsbC ?NclA ?NclN ?NclT ?NclM ?Nsup ?Nopq ?Nslf ?NlI ?NcI ?Nlc ?Nfv ?Nff ?Nlz) (PySem.W.mg_none_of KX G ?zL) (Wk.def_at ?a_is_pair ?l_is_pair ?c_is_pair ?k_is_pair) (Wk.def_at ?a_is_name ?l_is_name ?c_is_name ?k_is_name) (Wk.def_at ?a_is_rising ?l_is_rising ?c_is_rising ?k_is_rising) (Wk.def_at ?a_set_of ?l_set_of ?c_set_of ?k_set_of) (Wk.def_at ?a_tupled ?l_tupled ?c_tupled ?k_tupled) (Wk.def_at ?a_masks_table ?l_masks_table ?c_masks_table ?k_masks_table) (Wk.def_at ?a_may_table ?l_may_table ?c_may_table ?k_may_table) (Wk.def_at ?a_are_names ?l_are_names ?c_are_names ?k_are_names) (Wk.def_at ?a_is_seating ?l_is_seating ?c_is_seating ?k_is_seating) (Wk.def_at ?a_check_tasks ?l_check_tasks ?c_check_tasks ?k_check_tasks) (Wk.def_at ?a_seat ?l_seat ?c_seat ?k_seat) (Wk.def_at ?a_matched ?l_matched ?c_matched ?k_matched) (Wk.def_at ?a_can_seat ?l_can_seat ?c_can_seat ?k_can_seat) (Wk.def_at ?a_a_seating ?l_a_seating ?c_a_seating ?k_a_seating) (Wk.def_at ?a_is_seating_of ?l_is_seating_of ?c_is_seating_of ?k_is_seating_of) (Wk.def_at ?a_most_seated ?l_most_seated ?c_most_seated ?k_most_seated) (Wk.def_at ?a__law_box ?l__law_box ?c__law_box ?k__law_box) (Wk.def_at ?a__law_take ?l__law_take ?c__law_take ?k__law_take) (Wk.def_at ?a__law_cells ?l__law_cells ?c__law_cells ?k__law_cells) (Wk.def_at ?a__law_of ?l__law_of ?c__law_of ?k__law_of) (Wk.def_at ?a__law_same ?l__law_same ?c__law_same ?k__law_same) (Wk.def_at ?a__law_lists ?l__law_lists ?c__law_lists ?k__law_lists) (Wk.def_at ?a__law_mixed ?l__law_mixed ?c__law_mixed ?k__law_mixed) (Wk.def_at ?a__law_tags ?l__law_tags ?c__law_tags ?k__law_tags) (Wk.def_at ?a__law_other ?l__law_other ?c__law_other ?k__law_other) (Wk.def_at ?a__law_host ?l__law_host ?c__law_host ?k__law_host) (Wk.def_at ?a__law_queue ?l__law_queue ?c__law_queue ?k__law_queue) (Wk.def_at ?a__law_web ?l__law_web ?c__law_web ?k__law_web) (Wk.def_at ?a__law_drawn ?l__law_drawn ?c__law_drawn ?k__law_drawn) (Wk.def_at ?a__law_all ?l__law_all ?c__law_all ?k__law_all) (Wk.def_at ?a__law_lots ?l__law_lots ?c__law_lots ?k__law_lots) (Wk.def_at ?a__law_heard ?l__law_heard ?c__law_heard ?k__law_heard) (Wk.def_at ?a__law_asked ?l__law_asked ?c__law_asked ?k__law_asked) (Wk.def_at ?a__law_alike_right ?l__law_alike_right ?c__law_alike_right ?k__law_alike_right) (Wk.def_at ?a__law_by_hand_right ?l__law_by_hand_right ?c__law_by_hand_right ?k__law_by_hand_right) (Wk.def_at ?a__law_right ?l__law_right ?c__law_right ?k__law_right) (Wk.def_at ?a_law ?l_law ?c_law ?k_law)
    (case z0 => k_is)
    (case z1 => k_is)
    (case z2 => k_is)
    (case z3 => k_is)
    (case z4 => k_is)
    (case z5 => k_is)
    (case z6 => k_is)
    (case z7 => k_is)
    (case z8 => k_is)
    (case z9 => k_is)
    (case z10 => k_is)
    (case z11 => k_is)
    (case z12 => k_is)
    (case z13 => k_is)
    (case z14 => k_is)
    (case z15 => k_is)
    (case z16 => k_is)
    (case y0 => k_is)
    (case y1 => k_is)
    (case y2 => k_is)
    (case NgC => k_is)
    (case Ncls => k_is)
    (case Nsa => k_is)
    (case Nga => k_is)
    (case Ngg => k_is)
    (case NnoN => k_is)
    (case NiC => k_is)
    (case NtC => k_is)
    (case NkC => k_is)
    (case NexC => k_is)
    (case NleC => k_is)
    (case NtyC => k_is)
    (case NhdC => k_is)
    (case NisC => k_is)
    (case NsbC => first | rfl | k_is)
    (case NclA => k_is)
    (case NclN => k_is)
    (case NclT => k_is)
    (case NclM => k_is)
    (case Nsup => k_is)
    (case Nopq => k_is)
    (case Nslf => k_is)
    (case NlI => k_is)
    (case NcI => k_is)
    (case Nlc => k_is)
    (case Nfv => first | rfl | k_is)
    (case Nff => first | rfl | decide +kernel)
    (case Nlz => k_is)
    (case zL => k_is)
    (case a_is_pair => k_is); (case l_is_pair => k_is); (case c_is_pair => k_is); (case k_is_pair => k_is)
    (case a_is_name => k_is); (case l_is_name => k_is); (case c_is_name => k_is); (case k_is_name => k_is)
    (case a_is_rising => k_is); (case l_is_rising => k_is); (case c_is_rising => k_is); (case k_is_rising => k_is)
    (case a_set_of => k_is); (case l_set_of => k_is); (case c_set_of => k_is); (case k_set_of => k_is)
    (case a_tupled => k_is); (case l_tupled => k_is); (case c_tupled => k_is); (case k_tupled => k_is)
    (case a_masks_table => k_is); (case l_masks_table => k_is); (case c_masks_table => k_is); (case k_masks_table => k_is)
    (case a_may_table => k_is); (case l_may_table => k_is); (case c_may_table => k_is); (case k_may_table => k_is)
    (case a_are_names => k_is); (case l_are_names => k_is); (case c_are_names => k_is); (case k_are_names => k_is)
    (case a_is_seating => k_is); (case l_is_seating => k_is); (case c_is_seating => k_is); (case k_is_seating => k_is)
    (case a_check_tasks => k_is); (case l_check_tasks => k_is); (case c_check_tasks => k_is); (case k_check_tasks => k_is)
    (case a_seat => k_is); (case l_seat => k_is); (case c_seat => k_is); (case k_seat => k_is)
    (case a_matched => k_is); (case l_matched => k_is); (case c_matched => k_is); (case k_matched => k_is)
    (case a_can_seat => k_is); (case l_can_seat => k_is); (case c_can_seat => k_is); (case k_can_seat => k_is)
    (case a_a_seating => k_is); (case l_a_seating => k_is); (case c_a_seating => k_is); (case k_a_seating => k_is)
    (case a_is_seating_of => k_is); (case l_is_seating_of => k_is); (case c_is_seating_of => k_is); (case k_is_seating_of => k_is)
    (case a_most_seated => k_is); (case l_most_seated => k_is); (case c_most_seated => k_is); (case k_most_seated => k_is)
    (case a__law_box => k_is); (case l__law_box => k_is); (case c__law_box => k_is); (case k__law_box => k_is)
    (case a__law_take => k_is); (case l__law_take => k_is); (case c__law_take => k_is); (case k__law_take => k_is)
    (case a__law_cells => k_is); (case l__law_cells => k_is); (case c__law_cells => k_is); (case k__law_cells => k_is)
    (case a__law_of => k_is); (case l__law_of => k_is); (case c__law_of => k_is); (case k__law_of => k_is)
    (case a__law_same => k_is); (case l__law_same => k_is); (case c__law_same => k_is); (case k__law_same => k_is)
    (case a__law_lists => k_is); (case l__law_lists => k_is); (case c__law_lists => k_is); (case k__law_lists => k_is)
    (case a__law_mixed => k_is); (case l__law_mixed => k_is); (case c__law_mixed => k_is); (case k__law_mixed => k_is)
    (case a__law_tags => k_is); (case l__law_tags => k_is); (case c__law_tags => k_is); (case k__law_tags => k_is)
    (case a__law_other => k_is); (case l__law_other => k_is); (case c__law_other => k_is); (case k__law_other => k_is)
    (case a__law_host => k_is); (case l__law_host => k_is); (case c__law_host => k_is); (case k__law_host => k_is)
    (case a__law_queue => k_is); (case l__law_queue => k_is); (case c__law_queue => k_is); (case k__law_queue => k_is)
    (case a__law_web => k_is); (case l__law_web => k_is); (case c__law_web => k_is); (case k__law_web => k_is)
    (case a__law_drawn => k_is); (case l__law_drawn => k_is); (case c__law_drawn => k_is); (case k__law_drawn => k_is)
    (case a__law_all => k_is); (case l__law_all => k_is); (case c__law_all => k_is); (case k__law_all => k_is)
    (case a__law_lots => k_is); (case l__law_lots => k_is); (case c__law_lots => k_is); (case k__law_lots => k_is)
    (case a__law_heard => k_is); (case l__law_heard => k_is); (case c__law_heard => k_is); (case k__law_heard => k_is)
    (case a__law_asked => k_is); (case l__law_asked => k_is); (case c__law_asked => k_is); (case k__law_asked => k_is)
    (case a__law_alike_right => k_is); (case l__law_alike_right => k_is); (case c__law_alike_right => k_is); (case k__law_alike_right => k_is)
    (case a__law_by_hand_right => k_is); (case l__law_by_hand_right => k_is); (case c__law_by_hand_right => k_is); (case k__law_by_hand_right => k_is)
    (case a__law_right => k_is); (case l__law_right => k_is); (case c__law_right => k_is); (case k__law_right => k_is)
    (case a_law => k_is); (case l_law => k_is); (case c_law => k_is); (case k_law => k_is)
#print axioms PySem.Challenge.cw_masksmoved_k08_whole_which_can_be_seated_holds
