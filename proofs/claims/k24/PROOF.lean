import PyProof.Rows.All
import Wide.All
import OpenK.AllK
import Wide.FinOn
import HandS.ForMost
import HandS.ForExc
import HandS.WordsExc
import HandS.Defaults
import HandS.ExcInit
import HandS.ExcOwn
import HandS.ExcField
import HandS.TryMany
import HandS.CallSlots
import HandS.DictComp
import HandS.OwnEq
import HandS.DeepEq
import HandS.IsInst
import HandS.HeadHook2
import PyProof.NeData
import HandS.Walk
import KE.KDictZip
import KE.GoesMore
import HandS.Dict
import HandS.Iter
import HandS.DictEq
import PyProof.InstNe
import HandS.TryOnly
import HandS.HeadEnd
import PyProof.Rows.ReprR
import HandS.Head0
import HandS.Head1
import HandS.Head2
import HandS.HeadHook4
import KE.KStateDown
import PySem.Challenge.RW_everyseek_k24_whole_algebra_of_edits
/-! part Ma -/
/-! plain mathematics: pieces, what they lead to, the one way to tell it, samplings -/
set_option maxHeartbeats 1000000
set_option linter.all false
namespace K24
inductive Pc where
  | no (n : Int)
  | pl (s l t : Int)
  deriving DecidableEq
abbrev Mo := List (Option Int)
def den : Pc → Mo
  | .no n => List.replicate n.toNat none
  | .pl s l t => (List.range l.toNat).map fun i : Nat => some (s + t * (i : Int))
def dens (ps : List Pc) : Mo := ps.flatMap den
def plen : Pc → Int
  | .no n => n
  | .pl _ l _ => l
/-- what is_piece asks -/
def Pok : Pc → Prop
  | .no n => 1 ≤ n
  | .pl s l t => 0 ≤ s ∧ 1 ≤ l ∧ 1 ≤ t
/-- the step of a short one is 1 -/
def Nrm : Pc → Prop
  | .no _ => True
  | .pl _ l t => l = 1 → t = 1
/-- the second does not go on where the first one ends -/
def Apart : Pc → Pc → Prop
  | .no _, .no _ => False
  | .no _, .pl _ _ _ => True
  | .pl _ _ _, .no _ => True
  | .pl s l t, .pl s' _ _ => if l = 1 then s' ≤ s else s' ≠ s + l * t
def Can : List Pc → Prop
  | [] => True
  | [p] => Pok p ∧ Nrm p
  | p :: q :: r => Pok p ∧ Nrm p ∧ Apart p q ∧ Can (q :: r)

theorem Pok.len {p : Pc} (h : Pok p) : 1 ≤ plen p := by
  cases p with
  | no n => exact h
  | pl s l t => exact h.2.1
theorem den_len (p : Pc) : (den p).length = (plen p).toNat := by
  cases p <;> simp [den, plen]
theorem den_lenI {p : Pc} (h : Pok p) : ((den p).length : Int) = plen p := by
  have := h.len
  rw [den_len]; omega
theorem dens_nil : dens [] = [] := rfl
theorem dens_cons (p : Pc) (ps : List Pc) : dens (p :: ps) = den p ++ dens ps := by simp [dens]
theorem dens_app (ps qs : List Pc) : dens (ps ++ qs) = dens ps ++ dens qs := by simp [dens]
theorem dens_one (p : Pc) : dens [p] = den p := by simp [dens]
theorem dens_len : ∀ {ps : List Pc}, (∀ p ∈ ps, Pok p) → ((dens ps).length : Int) = (ps.map plen).sum
  | [], _ => rfl
  | p :: ps, h => by
    have ih := dens_len (ps := ps) fun q hq => h q (List.mem_cons_of_mem _ hq)
    have := den_lenI (h p List.mem_cons_self)
    rw [dens_cons, List.length_append, List.map_cons, List.sum_cons]
    omega
theorem den_pl_get {s l t : Int} {i : Nat} (h : (i : Int) < l) : (den (.pl s l t))[i]? = some (some (s + t * (i : Int))) := by
  have hi : i < l.toNat := by omega
  simp [den, hi]
theorem den_no_get {n : Int} {i : Nat} (h : (i : Int) < n) : (den (.no n))[i]? = some none := by
  have hi : i < n.toNat := by omega
  simp [den, List.getElem?_replicate, hi]

theorem Can.tail {p : Pc} {r : List Pc} (h : Can (p :: r)) : Can r := by
  cases r with
  | nil => exact True.intro
  | cons q r => exact h.2.2.2
theorem Can.head {p : Pc} {r : List Pc} (h : Can (p :: r)) : Pok p ∧ Nrm p := by
  cases r with
  | nil => exact h
  | cons q r => exact ⟨h.1, h.2.1⟩
theorem Can.all : ∀ {ps : List Pc}, Can ps → ∀ p ∈ ps, Pok p ∧ Nrm p
  | [], _, p, hp => by cases hp
  | q :: r, h, p, hp => by
    rcases List.mem_cons.mp hp with rfl | hp
    · exact h.head
    · exact Can.all h.tail p hp
theorem Can.ok {ps : List Pc} (h : Can ps) (p : Pc) (hp : p ∈ ps) : Pok p := (h.all p hp).1
/-- one more behind -/
theorem Can.snoc : ∀ {ps : List Pc} {q : Pc}, Can ps → Pok q → Nrm q → (∀ p, ps.getLast? = some p → Apart p q) → Can (ps ++ [q])
  | [], q, _, h1, h2, _ => ⟨h1, h2⟩
  | [p], q, h, h1, h2, h3 => ⟨h.1, h.2, h3 p rfl, h1, h2⟩
  | p :: p' :: r, q, h, h1, h2, h3 => ⟨h.1, h.2.1, h.2.2.1, Can.snoc (ps := p' :: r) h.2.2.2 h1 h2 fun z hz => h3 z (by rw [List.getLast?_cons_cons]; exact hz)⟩
/-- the last one may be made longer -/
theorem Can.last : ∀ {ps : List Pc} {p q : Pc}, Can (ps ++ [p]) → Pok q → Nrm q → (∀ z, Apart z p → Apart z q) → Can (ps ++ [q])
  | [], p, q, _, h1, h2, _ => ⟨h1, h2⟩
  | [z], p, q, h, h1, h2, h3 => ⟨h.1, h.2.1, h3 _ h.2.2.1, h1, h2⟩
  | z :: z' :: r, p, q, h, h1, h2, h3 => ⟨h.1, h.2.1, h.2.2.1, Can.last (ps := z' :: r) h.2.2.2 h1 h2 h3⟩
theorem Can.init : ∀ {ps : List Pc} {p : Pc}, Can (ps ++ [p]) → Can ps
  | [], _, _ => True.intro
  | [_], _, h => ⟨h.1, h.2.1⟩
  | _ :: z' :: r, p, h => ⟨h.1, h.2.1, h.2.2.1, Can.init (ps := z' :: r) h.2.2.2⟩

/-! ### the one way -/
theorem head_get {p : Pc} {r : List Pc} {i : Nat} (hi : (i : Int) < plen p) : (dens (p :: r))[i]? = (den p)[i]? := by
  rw [dens_cons, List.getElem?_append_left (by rw [den_len]; omega)]
theorem next_get {p q : Pc} {r : List Pc} (hp : Pok p) (hq : Pok q) : (dens (p :: q :: r))[(plen p).toNat]? = (den q)[0]? := by
  have := hq.len
  rw [dens_cons, List.getElem?_append_right (by rw [den_len]; omega), den_len, Nat.sub_self, head_get (by omega)]
theorem next_none {p : Pc} : (dens [p])[(plen p).toNat]? = none := by
  rw [dens_one]
  exact List.getElem?_eq_none_iff.mpr (by rw [den_len]; omega)
/-- a canonical list whose first one is short of another's first one is not the same -/
theorem no_short {p q : Pc} {r r' : List Pc} (h : Can (p :: r)) (h' : Can (q :: r')) (e : dens (p :: r) = dens (q :: r')) : ¬ plen p < plen q := by
  intro lt
  have hp := h.head
  have hq := h'.head
  have lp := hp.1.len
  have e0 : (den p)[0]? = (den q)[0]? := by
    rw [← head_get (r := r) (by omega), ← head_get (p := q) (r := r') (by omega), e]
  have en : (dens (p :: r))[(plen p).toNat]? = (den q)[(plen p).toNat]? := by
    rw [e, head_get (by omega)]
  cases r with
  | nil =>
    rw [next_none] at en
    have : (plen p).toNat < (den q).length := by rw [den_len]; omega
    rw [List.getElem?_eq_getElem this] at en
    cases en
  | cons z r =>
    have hz := h.tail.head
    have ap := h.2.2.1
    rw [next_get hp.1 hz.1] at en
    cases p with
    | no n =>
      have l1 : (0:Int) < plen q := by omega
      cases q with
      | pl s l t =>
        rw [den_no_get (show ((0:Nat):Int) < n from lp), den_pl_get (show ((0:Nat):Int) < l from l1)] at e0
        cases e0
      | no m =>
        rw [den_no_get (n := m) (by have : plen (.no m) = m := rfl; have : plen (.no n) = n := rfl; omega)] at en
        cases z with
        | no _ => exact ap
        | pl s l t =>
          rw [den_pl_get (show ((0:Nat):Int) < l from hz.1.len)] at en
          cases en
    | pl s l t =>
      have l1 : (0:Int) < plen q := by omega
      cases q with
      | no m =>
        rw [den_no_get (show ((0:Nat):Int) < m from l1), den_pl_get (show ((0:Nat):Int) < l from lp)] at e0
        cases e0
      | pl s' l' t' =>
        have ll : plen (.pl s l t) = l := rfl
        have ll' : plen (.pl s' l' t') = l' := rfl
        rw [ll] at lp lt en
        rw [ll'] at lt
        rw [den_pl_get (show ((0:Nat):Int) < l from lp), den_pl_get (show ((0:Nat):Int) < l' from by omega)] at e0
        have es : s = s' := by
          have := Option.some.inj (Option.some.inj e0)
          simpa using this
        rw [den_pl_get (l := l') (by omega)] at en
        cases z with
        | no m =>
          rw [den_no_get (show ((0:Nat):Int) < m from hz.1.len)] at en
          cases en
        | pl s2 l2 t2 =>
          rw [den_pl_get (show ((0:Nat):Int) < l2 from hz.1.len)] at en
          have e2 : s2 = s' + t' * l := by
            have := Option.some.inj (Option.some.inj en)
            have el : ((l.toNat : Nat) : Int) = l := by omega
            rw [el] at this
            simpa using this
          have tp : 1 ≤ t' := hq.1.2.2
          have ap : if l = 1 then s2 ≤ s else s2 ≠ s + l * t := ap
          by_cases h1 : l = 1
          · rw [if_pos h1] at ap
            rw [h1] at e2
            omega
          · rw [if_neg h1] at ap
            have e1 : (den (.pl s l t))[1]? = (den (.pl s' l' t'))[1]? := by
              rw [← head_get (r := .pl s2 l2 t2 :: r) (show ((1:Nat):Int) < plen (.pl s l t) by rw [ll]; omega), ← head_get (r := r') (show ((1:Nat):Int) < plen (.pl s' l' t') by rw [ll']; omega), e]
            rw [den_pl_get (by omega), den_pl_get (by omega)] at e1
            have et : t = t' := by
              have := Option.some.inj (Option.some.inj e1)
              have a1 : t * ((1:Nat):Int) = t := by rw [Int.natCast_one, Int.mul_one]
              have a2 : t' * ((1:Nat):Int) = t' := by rw [Int.natCast_one, Int.mul_one]
              rw [a1, a2] at this
              omega
            exact ap (by rw [e2, ← es, ← et, Int.mul_comm])
theorem same_head {p q : Pc} (hp : Pok p) (np : Nrm p) (hq : Pok q) (nq : Nrm q) (el : plen p = plen q) (e : den p = den q) : p = q := by
  have lp := hp.len
  cases p with
  | no n =>
    cases q with
    | no m => exact congrArg Pc.no el
    | pl s l t =>
      have : (den (.no n))[0]? = (den (.pl s l t))[0]? := by rw [e]
      rw [den_no_get (show ((0:Nat):Int) < n from lp), den_pl_get (show ((0:Nat):Int) < l from hq.len)] at this
      cases this
  | pl s l t =>
    cases q with
    | no m =>
      have : (den (.pl s l t))[0]? = (den (.no m))[0]? := by rw [e]
      rw [den_no_get (show ((0:Nat):Int) < m from hq.len), den_pl_get (show ((0:Nat):Int) < l from lp)] at this
      cases this
    | pl s' l' t' =>
      have el : l = l' := el
      subst el
      have lp : 1 ≤ l := lp
      have z : (den (.pl s l t))[0]? = (den (.pl s' l t'))[0]? := by rw [e]
      rw [den_pl_get (by omega), den_pl_get (by omega)] at z
      have es : s = s' := by
        have := Option.some.inj (Option.some.inj z)
        simpa using this
      subst es
      by_cases h1 : l = 1
      · rw [np h1, nq h1]
      · have z : (den (.pl s l t))[1]? = (den (.pl s l t'))[1]? := by rw [e]
        rw [den_pl_get (by omega), den_pl_get (by omega)] at z
        have := Option.some.inj (Option.some.inj z)
        have a1 : t * ((1:Nat):Int) = t := by rw [Int.natCast_one, Int.mul_one]
        have a2 : t' * ((1:Nat):Int) = t' := by rw [Int.natCast_one, Int.mul_one]
        rw [a1, a2] at this
        have et : t = t' := by omega
        rw [et]
/-- edit lists that lead to the same are told by the same pieces -/
theorem can_inj : ∀ {ps qs : List Pc}, Can ps → Can qs → dens ps = dens qs → ps = qs
  | [], [], _, _, _ => rfl
  | [], q :: r, _, h, e => by
    have := h.head.1.len
    have z := congrArg List.length e
    rw [dens_cons, List.length_append, den_len, dens_nil] at z
    simp only [List.length_nil] at z
    omega
  | p :: r, [], h, _, e => by
    have := h.head.1.len
    have z := congrArg List.length e
    rw [dens_cons, List.length_append, den_len, dens_nil] at z
    simp only [List.length_nil] at z
    omega
  | p :: r, q :: r', h, h', e => by
    have l1 := no_short h h' e
    have l2 := no_short h' h e.symm
    have el : plen p = plen q := by omega
    have z := e
    rw [dens_cons, dens_cons] at z
    obtain ⟨z1, z2⟩ := List.append_inj z (by rw [den_len, den_len, el])
    have ep := same_head h.head.1 h.head.2 h'.head.1 h'.head.2 el z1
    rw [ep, can_inj h.tail h'.tail z2]

/-! ### how many pieces -/
/-- moments that play, and stretches of nothing -/
def mm : Bool → Mo → Nat
  | _, [] => 0
  | b, none :: r => (if b then 0 else 1) + mm true r
  | _, some _ :: r => 1 + mm false r
theorem mm_le (L : Mo) : mm true L ≤ mm false L ∧ mm false L ≤ mm true L + 1 := by
  cases L with
  | nil => simp [mm]
  | cons x r => cases x <;> simp [mm] <;> omega
theorem mm_len : ∀ (L : Mo) (b : Bool), mm b L ≤ L.length
  | [], _ => by simp [mm]
  | none :: r, b => by
    have := mm_len r true
    cases b <;> simp [mm] <;> omega
  | some _ :: r, b => by
    have := mm_len r false
    cases b <;> simp [mm] <;> omega
theorem mm_app : ∀ (A B : Mo) (b : Bool), mm b (A ++ B) ≤ mm b A + mm false B ∧ mm b A + mm false B ≤ mm b (A ++ B) + 1
  | [], B, b => by
    have := mm_le B
    cases b <;> simp [mm] <;> omega
  | none :: r, B, b => by
    have := mm_app r B true
    cases b <;> simp [mm] <;> omega
  | some _ :: r, B, b => by
    have := mm_app r B false
    cases b <;> simp [mm] <;> omega
theorem mm_rep (n : Nat) (b : Bool) : mm b (List.replicate n none) ≤ 1 := by
  have h : ∀ n, mm true (List.replicate n none) = 0 := by
    intro n
    induction n with
    | zero => rfl
    | succ n ih => rw [List.replicate_succ]; simp [mm, ih]
  cases n with
  | zero => simp [mm]
  | succ n =>
    rw [List.replicate_succ]
    cases b <;> simp [mm, h]
theorem mm_pl : ∀ (L : List Int) (b : Bool), mm b (L.map some) = L.length
  | [], _ => rfl
  | x :: r, b => by
    show 1 + mm false (r.map some) = r.length + 1
    rw [mm_pl r false]; omega
theorem mm_den {p : Pc} (h : Pok p) (b : Bool) (hb : b = true → ∃ s l t, p = .pl s l t) : 1 ≤ mm b (den p) := by
  have := h.len
  cases p with
  | no n =>
    cases b with
    | true => obtain ⟨_, _, _, e⟩ := hb rfl; cases e
    | false =>
      obtain ⟨k, hk⟩ : ∃ k, n.toNat = k + 1 := ⟨n.toNat - 1, by have : plen (.no n) = n := rfl; omega⟩
      show 1 ≤ mm false (List.replicate n.toNat none)
      rw [hk, List.replicate_succ]
      simp [mm]
  | pl s l t =>
    have e : den (.pl s l t) = ((List.range l.toNat).map fun i : Nat => s + t * (i : Int)).map some := by simp [den]
    rw [e, mm_pl, List.length_map, List.length_range]
    have : plen (.pl s l t) = l := rfl
    omega
theorem mm_app_no : ∀ (A B : Mo) (b : Bool), (∃ x, A.getLast? = some (some x)) ∨ (∃ x r, B = some x :: r) ∨ B = [] → mm b (A ++ B) = mm b A + mm false B
  | [], B, b, h => by
    rcases h with ⟨x, h⟩ | ⟨x, r, rfl⟩ | rfl
    · cases h
    · cases b <;> simp [mm]
    · simp [mm]
  | [none], B, b, h => by
    rcases h with ⟨x, h⟩ | ⟨x, r, rfl⟩ | rfl
    · cases h
    · cases b <;> simp [mm]
    · cases b <;> simp [mm]
  | [some y], B, b, h => by
    cases b <;> simp [mm]
  | none :: z :: r, B, b, h => by
    have ih := mm_app_no (z :: r) B true (h.imp (fun ⟨x, h⟩ => ⟨x, by rw [List.getLast?_cons_cons] at h; exact h⟩) id)
    cases b <;> simp only [List.cons_append, mm] at ih ⊢ <;> omega
  | some y :: z :: r, B, b, h => by
    have ih := mm_app_no (z :: r) B false (h.imp (fun ⟨x, h⟩ => ⟨x, by rw [List.getLast?_cons_cons] at h; exact h⟩) id)
    cases b <;> simp only [List.cons_append, mm] at ih ⊢ <;> omega
theorem den_pl_last {s l t : Int} (h : 1 ≤ l) : (den (.pl s l t)).getLast? = some (some (s + t * (l - 1))) := by
  rw [List.getLast?_eq_getElem?, den_len]
  have : plen (.pl s l t) = l := rfl
  rw [this, den_pl_get (by omega)]
  have e : ((l.toNat - 1 : Nat) : Int) = l - 1 := by omega
  rw [e]
theorem den_pl_cons {s l t : Int} (h : 1 ≤ l) : ∃ r, den (.pl s l t) = some s :: r := by
  have e := den_pl_get (s := s) (t := t) (l := l) (i := 0) (by omega)
  cases hd : den (.pl s l t) with
  | nil => rw [hd] at e; simp at e
  | cons a r =>
    rw [hd] at e
    have e := Option.some.inj e
    have e : a = some (s + t * ((0:Nat):Int)) := e
    exact ⟨r, by rw [e]; simp⟩
theorem can_mm : ∀ {ps : List Pc}, Can ps → ps.length ≤ mm false (dens ps)
  | [], _ => Nat.zero_le _
  | [p], h => by
    rw [dens_one]
    exact mm_den h.1 false (by simp)
  | p :: q :: r, h => by
    have ih := can_mm h.2.2.2
    have e : mm false (dens (p :: q :: r)) = mm false (den p) + mm false (dens (q :: r)) := by
      rw [dens_cons]
      refine mm_app_no _ _ _ ?_
      cases p with
      | pl s l t => exact .inl ⟨_, den_pl_last h.1.2.1⟩
      | no n =>
        cases q with
        | no m => exact h.2.2.1.elim
        | pl s l t =>
          obtain ⟨u, hu⟩ := den_pl_cons (s := s) (t := t) h.2.2.2.head.1.2.1
          exact .inr (.inl ⟨s, u ++ dens r, by rw [dens_cons, hu]; rfl⟩)
    have := mm_den h.1 false (by simp)
    simp only [List.length_cons] at ih ⊢
    omega

/-! ### samplings -/
def cdiv (x f : Nat) : Nat := (x + f - 1) / f
/-- every f-th moment of the stretch from a to b -/
def smp (L : Mo) (a b f : Nat) : Mo := (List.range (cdiv (min b L.length - a) f)).map fun j => L.getD (a + j * f) none
theorem smp_len (L : Mo) (a b f : Nat) : (smp L a b f).length = cdiv (min b L.length - a) f := by simp [smp]
theorem cdiv_one (x : Nat) : cdiv x 1 = x := by simp [cdiv]
theorem cdiv_lt {x f j : Nat} (hf : 1 ≤ f) : j < cdiv x f ↔ j * f < x := by
  unfold cdiv
  rw [Nat.lt_div_iff_mul_lt (by omega)]
  omega
theorem cdiv_le {x f j : Nat} (hf : 1 ≤ f) : cdiv x f ≤ j ↔ x ≤ j * f := by
  have := cdiv_lt (x := x) (j := j) hf
  omega
theorem smp_get {L : Mo} {a b f j : Nat} (h : j < cdiv (min b L.length - a) f) : (smp L a b f)[j]? = some (L.getD (a + j * f) none) := by
  simp [smp, h]
theorem smp_one (L : Mo) (a b : Nat) : smp L a b 1 = (L.take b).drop a := by
  refine List.ext_getElem? fun i => ?_
  rw [List.getElem?_drop]
  by_cases h : i < min b L.length - a
  · rw [smp_get (by rw [cdiv_one]; exact h), Nat.mul_one, List.getElem?_take, if_pos (by omega)]
    rw [List.getD_eq_getElem?_getD, List.getElem?_eq_getElem (by omega)]
    rfl
  · rw [List.getElem?_eq_none_iff.mpr (by rw [smp_len, cdiv_one]; omega)]
    refine (List.getElem?_eq_none_iff.mpr ?_).symm
    rw [List.length_take]
    omega
theorem smp_take {L D : Mo} {a b f : Nat} (hf : 1 ≤ f) : ∃ n, smp (L ++ D) a b f = smp L a b f ++ (List.range n).map (fun j => (L ++ D).getD (a + (cdiv (min b L.length - a) f + j) * f) none) ∧
    cdiv (min b L.length - a) f + n = cdiv (min b (L ++ D).length - a) f := by
  have hle : cdiv (min b L.length - a) f ≤ cdiv (min b (L ++ D).length - a) f := by
    rw [cdiv_le hf]
    have := (cdiv_le (x := min b (L ++ D).length - a) (j := cdiv (min b (L ++ D).length - a) f) hf).mp (Nat.le_refl _)
    rw [List.length_append] at this ⊢
    omega
  refine ⟨cdiv (min b (L ++ D).length - a) f - cdiv (min b L.length - a) f, ?_, by omega⟩
  refine List.ext_getElem? fun i => ?_
  by_cases h : i < cdiv (min b (L ++ D).length - a) f
  · rw [smp_get h]
    by_cases h1 : i < cdiv (min b L.length - a) f
    · rw [List.getElem?_append_left (by rw [smp_len]; exact h1), smp_get h1]
      have h2 := (cdiv_lt hf).mp h1
      rw [List.getD_eq_getElem?_getD, List.getElem?_append_left (by omega), ← List.getD_eq_getElem?_getD]
    · rw [List.getElem?_append_right (by rw [smp_len]; omega), smp_len, List.getElem?_map, List.getElem?_range (by omega)]
      have e : cdiv (min b L.length - a) f + (i - cdiv (min b L.length - a) f) = i := by omega
      simp only [Option.map_some, e]
  · rw [List.getElem?_eq_none_iff.mpr (by rw [smp_len]; omega)]
    refine (List.getElem?_eq_none_iff.mpr ?_).symm
    rw [List.length_append, smp_len, List.length_map, List.length_range]
    omega

theorem smp_L {L : Mo} (a b f : Nat) (hb : L.length ≤ b) : smp L a b f = smp L a L.length f := by
  unfold smp
  rw [Nat.min_eq_right hb, Nat.min_self]
/-- the stretch alone -/
theorem smp_mid {A M C : Mo} (f : Nat) : smp (A ++ M ++ C) A.length (A.length + M.length) f = smp M 0 M.length f := by
  have e : min (A.length + M.length) (A ++ M ++ C).length - A.length = M.length := by
    simp only [List.length_append]; omega
  have e2 : min M.length M.length - 0 = M.length := by omega
  unfold smp
  rw [e, e2]
  refine List.ext_getElem? fun i => ?_
  rw [List.getElem?_map, List.getElem?_map]
  by_cases h : i < cdiv M.length f
  · rw [List.getElem?_range h]
    simp only [Option.map_some, List.getD_eq_getElem?_getD]
    rcases Nat.eq_zero_or_pos f with hf | hf
    · subst hf
      simp [cdiv] at h
    · have h1 := (cdiv_lt hf).mp h
      rw [List.append_assoc, List.getElem?_append_right (by omega), List.getElem?_append_left (by omega)]
      have e3 : A.length + i * f - A.length = 0 + i * f := by omega
      rw [e3]
  · rw [List.getElem?_eq_none_iff.mpr (by rw [List.length_range]; omega)]
    rfl
theorem cdiv_mul (x f g : Nat) (hf : 1 ≤ f) (hg : 1 ≤ g) : cdiv (cdiv x f) g = cdiv x (f * g) := by
  have hfg : 1 ≤ f * g := Nat.mul_pos hf hg
  refine Nat.le_antisymm ?_ ?_
  · rw [cdiv_le hg, cdiv_le hf, Nat.mul_assoc, Nat.mul_comm g f, ← cdiv_le hfg]
    exact Nat.le_refl _
  · rw [cdiv_le hfg, Nat.mul_comm f g, ← Nat.mul_assoc, ← cdiv_le hf, ← cdiv_le hg]
    exact Nat.le_refl _
theorem smp_smp (L : Mo) (a b f g : Nat) (hf : 1 ≤ f) (hg : 1 ≤ g) : smp (smp L a b f) 0 (smp L a b f).length g = smp L a b (f * g) := by
  refine List.ext_getElem? fun i => ?_
  have e0 : min (smp L a b f).length (smp L a b f).length - 0 = cdiv (min b L.length - a) f := by rw [smp_len]; omega
  by_cases h : i < cdiv (min b L.length - a) (f * g)
  · rw [smp_get h]
    have h2 : i < cdiv (cdiv (min b L.length - a) f) g := by rw [cdiv_mul _ _ _ hf hg]; exact h
    rw [smp_get (by rw [e0]; exact h2)]
    have h3 := (cdiv_lt hg).mp h2
    rw [List.getD_eq_getElem?_getD, Nat.zero_add, smp_get h3]
    simp only [Option.getD_some]
    rw [show i * g * f = i * (f * g) by rw [Nat.mul_assoc, Nat.mul_comm g f]]
  · rw [List.getElem?_eq_none_iff.mpr (by rw [smp_len, e0, cdiv_mul _ _ _ hf hg]; omega), List.getElem?_eq_none_iff.mpr (by rw [smp_len]; omega)]
theorem mm_drop : ∀ (k : Nat) (L : Mo) (b : Bool), mm b (L.drop k) ≤ mm b L
  | 0, _, _ => Nat.le_refl _
  | _ + 1, [], _ => Nat.le_refl _
  | k + 1, x :: r, b => by
    have ih := mm_drop k r b
    have := mm_le r
    show mm b (r.drop k) ≤ mm b (x :: r)
    cases x <;> cases b <;> simp only [mm] <;> first | omega | (simp only [Bool.false_eq_true, if_false, if_true]; omega)
theorem mm_smp_aux : ∀ (n : Nat) (L : Mo) (f : Nat) (b : Bool), 1 ≤ f → L.length ≤ n → mm b (smp L 0 L.length f) ≤ mm b L
  | n, [], f, b, hf, _ => by
    have : (smp [] 0 0 f).length = 0 := by rw [smp_len]; show cdiv 0 f = 0; exact Nat.le_zero.mp ((cdiv_le hf).mpr (by omega))
    have e : smp ([] : Mo) 0 ([] : Mo).length f = [] := List.eq_nil_of_length_eq_zero this
    rw [e]
    exact Nat.le_refl _
  | 0, x :: r, f, b, hf, h => by simp at h
  | n + 1, x :: r, f, b, hf, h => by
    have key : smp (x :: r) 0 (x :: r).length f = x :: smp (r.drop (f - 1)) 0 (r.drop (f - 1)).length f := by
      have e1 : min (x :: r).length (x :: r).length - 0 = r.length + 1 := by simp
      have e2 : min (r.drop (f - 1)).length (r.drop (f - 1)).length - 0 = r.length - (f - 1) := by simp
      have e3 : cdiv (r.length + 1) f = cdiv (r.length - (f - 1)) f + 1 := by
        refine Nat.le_antisymm ?_ ?_
        · rw [cdiv_le hf, Nat.add_mul, Nat.one_mul]
          have := (cdiv_le (x := r.length - (f - 1)) hf).mp (Nat.le_refl _)
          omega
        · have a1 : cdiv (r.length - (f - 1)) f < cdiv (r.length + 1) f := by
            rw [cdiv_lt hf]
            rcases Nat.eq_zero_or_pos (cdiv (r.length - (f - 1)) f) with z | z
            · rw [z]; omega
            · have := (cdiv_lt (x := r.length - (f - 1)) (j := cdiv (r.length - (f - 1)) f - 1) hf).mp (by omega)
              have e4 : (cdiv (r.length - (f - 1)) f - 1) * f + f = cdiv (r.length - (f - 1)) f * f := by
                rw [← Nat.succ_mul]; congr 1; omega
              omega
          omega
      refine List.ext_getElem? fun i => ?_
      cases i with
      | zero =>
        rw [smp_get (by rw [e1, e3]; omega)]
        simp
      | succ i =>
        rw [List.getElem?_cons_succ]
        by_cases hi : i < cdiv (r.length - (f - 1)) f
        · rw [smp_get (by rw [e1, e3]; omega), smp_get (by rw [e2]; exact hi)]
          rw [List.getD_eq_getElem?_getD, List.getD_eq_getElem?_getD, List.getElem?_drop]
          have e5 : 0 + (i + 1) * f = (f - 1 + (0 + i * f)) + 1 := by
            rw [Nat.add_mul, Nat.one_mul]; omega
          rw [e5, List.getElem?_cons_succ]
        · rw [List.getElem?_eq_none_iff.mpr (by rw [smp_len, e1, e3]; omega), List.getElem?_eq_none_iff.mpr (by rw [smp_len, e2]; omega)]
    have hd : (r.drop (f - 1)).length ≤ n := by
      rw [List.length_drop]
      simp only [List.length_cons] at h
      omega
    have mono : ∀ b', mm b' (r.drop (f - 1)) ≤ mm b' r := fun b' => mm_drop _ _ _
    rw [key]
    cases x with
    | none =>
      have ih := mm_smp_aux n (r.drop (f - 1)) f true hf hd
      have m := mono true
      cases b <;> simp only [mm] <;> omega
    | some y =>
      have ih := mm_smp_aux n (r.drop (f - 1)) f false hf hd
      have m := mono false
      cases b <;> simp only [mm] <;> omega
theorem mm_smp {L : Mo} {a b f : Nat} (hf : 1 ≤ f) (ha : a ≤ b) (hb : b ≤ L.length) : mm false (smp L a b f) ≤ mm false ((L.take b).drop a) := by
  have e : L = L.take a ++ (L.take b).drop a ++ L.drop b := by
    have h1 : (L.take b).take a = L.take a := by rw [List.take_take, Nat.min_eq_left ha]
    have h2 := List.take_append_drop a (L.take b)
    rw [h1] at h2
    rw [h2, List.take_append_drop]
  have l1 : (L.take a).length = a := by rw [List.length_take]; omega
  have l2 : a + ((L.take b).drop a).length = b := by rw [List.length_drop, List.length_take]; omega
  have z := smp_mid (A := L.take a) (M := (L.take b).drop a) (C := L.drop b) f
  rw [← e, l1, l2] at z
  rw [z]
  exact mm_smp_aux _ _ f false hf (Nat.le_refl _)
end K24

/-! part Mb -/
/-! plain mathematics: what with_piece and sampled do -/
set_option maxHeartbeats 1000000
set_option linter.all false
namespace K24
/-- what play makes -/
def ply (s l t : Int) : Pc := .pl s l (if l > 1 then t else 1)
def takenBy : Pc → Int → Int → Int → Int
  | .no _, _, _, _ => 0
  | .pl s0 l0 t0, s, l, t => if l0 = 1 then (if s > s0 then 1 else 0) else if s ≠ s0 + l0 * t0 then 0 else if t = t0 then l else 1
theorem den_ext (s l t k : Int) (hl : 0 ≤ l) (hk : 0 ≤ k) : den (.pl s l t) ++ den (.pl (s + l * t) k t) = den (.pl s (l + k) t) := by
  refine List.ext_getElem? fun i => ?_
  have h1 : (den (.pl s l t)).length = l.toNat := den_len _
  by_cases hi : (i : Int) < l
  · rw [List.getElem?_append_left (by rw [h1]; omega), den_pl_get hi, den_pl_get (by omega)]
  · rw [List.getElem?_append_right (by rw [h1]; omega), h1]
    by_cases h2 : (i : Int) < l + k
    · rw [den_pl_get (by omega), den_pl_get h2]
      have e : ((i - l.toNat : Nat) : Int) = i - l := by omega
      rw [e, Int.mul_sub, Int.mul_comm l t]
      congr 2
      omega
    · have h3 : (den (.pl (s + l * t) k t)).length = k.toNat := den_len _
      have h4 : (den (.pl s (l + k) t)).length = (l + k).toNat := den_len _
      rw [List.getElem?_eq_none_iff.mpr (by rw [h3]; omega), List.getElem?_eq_none_iff.mpr (by rw [h4]; omega)]
theorem den_step1 (s t t' : Int) : den (.pl s 1 t) = den (.pl s 1 t') := by
  simp [den]
theorem den_ply (s l t : Int) : den (ply s l t) = den (.pl s l t) := by
  unfold ply
  by_cases h : l > 1
  · rw [if_pos h]
  · rw [if_neg h]
    by_cases h1 : l = 1
    · subst h1
      exact den_step1 _ _ _
    · have : l.toNat = 0 := by omega
      simp [den, this]
theorem den_zero (s l t : Int) (h : l ≤ 0) : den (.pl s l t) = [] := by
  have : l.toNat = 0 := by omega
  simp [den, this]
theorem ply_ok {s l t : Int} (hs : 0 ≤ s) (hl : 1 ≤ l) (ht : 1 ≤ t) : Pok (ply s l t) ∧ Nrm (ply s l t) := by
  unfold ply
  by_cases h : l > 1
  · rw [if_pos h]
    exact ⟨⟨hs, hl, ht⟩, fun e => by omega⟩
  · rw [if_neg h]
    exact ⟨⟨hs, hl, by omega⟩, fun _ => rfl⟩
theorem apart_ply {p : Pc} {s l t t' : Int} (h : Apart p (.pl s l t)) : Apart p (.pl s l t') := by
  cases p <;> exact h
theorem taken_zero {p : Pc} {s l t : Int} (hp : Pok p) (hl : 1 ≤ l) (h : takenBy p s l t = 0) : Apart p (ply s l t) := by
  cases p with
  | no n => exact True.intro
  | pl s0 l0 t0 =>
    show if l0 = 1 then s ≤ s0 else s ≠ s0 + l0 * t0
    have h : (if l0 = 1 then (if s > s0 then 1 else 0) else if s ≠ s0 + l0 * t0 then 0 else if t = t0 then l else 1) = (0 : Int) := h
    by_cases h1 : l0 = 1
    · rw [if_pos h1] at h ⊢
      by_cases h2 : s > s0
      · rw [if_pos h2] at h; omega
      · omega
    · rw [if_neg h1] at h ⊢
      by_cases h2 : s ≠ s0 + l0 * t0
      · exact h2
      · rw [if_neg h2] at h
        by_cases h3 : t = t0
        · rw [if_pos h3] at h; omega
        · rw [if_neg h3] at h; omega
theorem taken_some {p : Pc} {s l t : Int} (hp : Pok p) (np : Nrm p) (hl : 1 ≤ l) (ht : 1 ≤ t) (h : takenBy p s l t ≠ 0) :
    ∃ s0 l0 t0, p = .pl s0 l0 t0 ∧ 1 ≤ takenBy p s l t ∧ takenBy p s l t ≤ l ∧
      Pok (ply s0 (l0 + takenBy p s l t) (if l0 = 1 then s - s0 else t0)) ∧ Nrm (ply s0 (l0 + takenBy p s l t) (if l0 = 1 then s - s0 else t0)) ∧
      (∀ z, Apart z p → Apart z (ply s0 (l0 + takenBy p s l t) (if l0 = 1 then s - s0 else t0))) ∧
      den (ply s0 (l0 + takenBy p s l t) (if l0 = 1 then s - s0 else t0)) ++ den (.pl (s + takenBy p s l t * t) (l - takenBy p s l t) t) = den p ++ den (.pl s l t) := by
  cases p with
  | no n => exact absurd rfl h
  | pl s0 l0 t0 =>
    refine ⟨s0, l0, t0, rfl, ?_⟩
    have hs0 : 0 ≤ s0 := hp.1
    have hl0 : 1 ≤ l0 := hp.2.1
    have ht0 : 1 ≤ t0 := hp.2.2
    have ap : ∀ (n st : Int) z, Apart z (.pl s0 l0 t0) → Apart z (ply s0 (l0 + n) st) := fun n st z hz => by
      cases z <;> exact hz
    have e : takenBy (.pl s0 l0 t0) s l t = (if l0 = 1 then (if s > s0 then 1 else 0) else if s ≠ s0 + l0 * t0 then 0 else if t = t0 then l else 1) := rfl
    by_cases h1 : l0 = 1
    · subst h1
      rw [if_pos rfl] at e
      by_cases h2 : s > s0
      · rw [if_pos h2] at e
        rw [e, if_pos rfl]
        have o := ply_ok (s := s0) (l := 1 + 1) (t := s - s0) hs0 (by omega) (by omega)
        refine ⟨by omega, hl, o.1, o.2, ap _ _, ?_⟩
        rw [den_ply, ← den_ext s0 1 (s - s0) 1 (by omega) (by omega), den_step1 s0 _ t0, List.append_assoc]
        congr 1
        have e2 : s0 + 1 * (s - s0) = s := by omega
        rw [e2, den_step1 s _ t, den_ext s 1 t (l - 1) (by omega) (by omega)]
        congr 2
        omega
      · rw [if_neg h2] at e
        exact absurd e h
    · rw [if_neg h1] at e
      by_cases h2 : s ≠ s0 + l0 * t0
      · rw [if_pos h2] at e
        exact absurd e h
      · rw [if_neg h2] at e
        have h2 : s = s0 + l0 * t0 := by omega
        by_cases h3 : t = t0
        · rw [if_pos h3] at e
          rw [e, if_neg h1]
          have o := ply_ok (s := s0) (l := l0 + l) (t := t0) hs0 (by omega) ht0
          refine ⟨hl, Int.le_refl _, o.1, o.2, ap _ _, ?_⟩
          rw [den_ply, den_zero _ (l - l) _ (by omega), List.append_nil, h3, h2, den_ext _ _ _ _ (by omega) (by omega)]
        · rw [if_neg h3] at e
          rw [e, if_neg h1]
          have o := ply_ok (s := s0) (l := l0 + 1) (t := t0) hs0 (by omega) ht0
          refine ⟨by omega, hl, o.1, o.2, ap _ _, ?_⟩
          rw [den_ply, ← den_ext s0 l0 t0 1 (by omega) (by omega), List.append_assoc]
          congr 1
          rw [← h2, den_step1 s _ t, den_ext s 1 t (l - 1) (by omega) (by omega)]
          congr 2
          omega
/-! ### sampled -/
theorem neg_fdiv {x : Int} {f : Nat} (hf : 1 ≤ f) : (-((-x).fdiv f) - 1) * f < x ∧ x ≤ -((-x).fdiv f) * f := by
  have e : (-x).fdiv (f : Int) = (-x) / (f : Int) := Int.fdiv_eq_ediv_of_nonneg _ (by omega)
  rw [e]
  have h1 := Int.mul_ediv_self_le (x := -x) (k := (f : Int)) (by omega)
  have h2 := Int.lt_mul_ediv_self_add (x := -x) (k := (f : Int)) (by omega)
  rw [Int.sub_mul, Int.neg_mul, Int.one_mul]
  rw [Int.mul_comm] at h1 h2
  omega
theorem fdiv_cdiv {n f : Nat} (hf : 1 ≤ f) {c : Int} (h1 : (c - 1) * f < n) (h2 : (n : Int) ≤ c * f) : c = (cdiv n f : Nat) := by
  have hc : 0 ≤ c := by
    by_cases h : 0 ≤ c
    · exact h
    · have : c * f ≤ -1 * f := Int.mul_le_mul_of_nonneg_right (by omega) (by omega)
      omega
  obtain ⟨k, rfl⟩ : ∃ k : Nat, c = k := ⟨c.toNat, by omega⟩
  have a1 : cdiv n f ≤ k := (cdiv_le hf).mpr (by have : ((k * f : Nat) : Int) = (k : Int) * f := Int.natCast_mul _ _; omega)
  have a2 : k ≤ cdiv n f := by
    cases k with
    | zero => omega
    | succ j =>
      have : j < cdiv n f := (cdiv_lt hf).mpr (by
        have e : ((j * f : Nat) : Int) = (j : Int) * f := Int.natCast_mul _ _
        have e2 : ((j + 1 : Nat) : Int) - 1 = (j : Int) := by omega
        rw [e2] at h1
        omega)
      omega
  omega
def newPc (p : Pc) (d many f : Int) : Pc := match p with
  | .no _ => .no many
  | .pl s _ t => ply (s + t * d) many (t * f)
theorem newPc_ok {p : Pc} {d many f : Int} (hp : Pok p) (hd : 0 ≤ d) (hm : 1 ≤ many) (hf : 1 ≤ f) : Pok (newPc p d many f) := by
  cases p with
  | no n => exact hm
  | pl s l t =>
    have ht : 1 ≤ t := hp.2.2
    have h1 : 0 ≤ t * d := Int.mul_nonneg (by omega) hd
    have h2 : 1 ≤ t * f := by
      have : t * 1 ≤ t * f := Int.mul_le_mul_of_nonneg_left hf (by omega)
      omega
    have hs := hp.1
    exact (ply_ok (by omega) hm h2).1
theorem newPc_get {p : Pc} {d many f : Int} {i : Nat} (hi : (i : Int) < many) (hd : 0 ≤ d) (hf : 1 ≤ f) (hb : d + i * f < plen p) :
    (den (newPc p d many f))[i]? = (den p)[(d + i * f).toNat]? := by
  have hif : 0 ≤ (i : Int) * f := Int.mul_nonneg (by omega) (by omega)
  cases p with
  | no n =>
    have hb : d + i * f < n := hb
    show (den (.no many))[i]? = _
    rw [den_no_get hi, den_no_get (by omega)]
  | pl s l t =>
    have hb : d + i * f < l := hb
    show (den (ply _ _ _))[i]? = _
    rw [den_ply, den_pl_get hi, den_pl_get (by omega)]
    have e : (((d + i * f).toNat : Nat) : Int) = d + i * f := by omega
    rw [e, Int.mul_add, Int.mul_assoc, Int.mul_comm f (i : Int)]
    congr 2
    omega
theorem newPc_len (p : Pc) (d many f : Int) : (den (newPc p d many f)).length = many.toNat := by
  cases p with
  | no n => exact den_len _
  | pl s l t =>
    show (den (ply _ _ _)).length = _
    rw [den_ply]
    exact den_len _
theorem samp_step {L : Mo} {p : Pc} {a b f : Nat} {sk mo many : Int} (hp : Pok p) (hf : 1 ≤ f)
    (esk : sk = -((-(if 0 > (L.length : Int) - a then 0 else (L.length : Int) - a)).fdiv f)) (emo : mo = a + sk * f)
    (emany : many = -((-((if (b : Int) < (L.length : Int) + plen p then (b : Int) else (L.length : Int) + plen p) - mo)).fdiv f)) :
    if many > 0 then 0 ≤ mo - L.length ∧ mo - L.length ≤ plen p ∧ Pok (newPc p (mo - L.length) many f) ∧ smp (L ++ den p) a b f = smp L a b f ++ den (newPc p (mo - L.length) many f)
    else smp (L ++ den p) a b f = smp L a b f := by
  have hl := hp.len
  have elen : ((L ++ den p).length : Int) = L.length + plen p := by rw [List.length_append, Int.natCast_add, den_lenI hp]
  have b1 := neg_fdiv (x := if 0 > (L.length : Int) - a then 0 else (L.length : Int) - a) hf
  rw [← esk] at b1
  have hsk : sk = (cdiv (L.length - a) f : Nat) := by
    refine fdiv_cdiv hf ?_ ?_
    · have := b1.1
      split at this <;> omega
    · have := b1.2
      split at this <;> omega
  have b2 := neg_fdiv (x := (if (b : Int) < (L.length : Int) + plen p then (b : Int) else (L.length : Int) + plen p) - mo) hf
  rw [← emany] at b2
  have hmul : ((cdiv (L.length - a) f * f : Nat) : Int) = (cdiv (L.length - a) f : Nat) * (f : Int) := Int.natCast_mul _ _
  have hge : L.length - a ≤ cdiv (L.length - a) f * f := (cdiv_le hf).mp (Nat.le_refl _)
  have hlt : cdiv (L.length - a) f = 0 ∨ (cdiv (L.length - a) f - 1) * f < L.length - a := by
    rcases Nat.eq_zero_or_pos (cdiv (L.length - a) f) with z | z
    · exact .inl z
    · exact .inr ((cdiv_lt hf).mp (by omega))
  have emo2 : mo = ((a + cdiv (L.length - a) f * f : Nat) : Int) := by
    rw [emo, hsk, Int.natCast_add, hmul]
  have hmoge : (L.length : Int) ≤ mo := by rw [emo2]; omega
  obtain ⟨n, e1, e2⟩ := smp_take (L := L) (D := den p) (a := a) (b := b) hf
  by_cases hm : many > 0
  · rw [if_pos hm]
    -- then b is beyond the moment
    have hx : 0 < (if (b : Int) < (L.length : Int) + plen p then (b : Int) else (L.length : Int) + plen p) - mo := by
      have h0 : 0 ≤ (many - 1) * (f : Int) := Int.mul_nonneg (by omega) (by omega)
      omega
    have hb : (L.length : Int) ≤ b := by
      split at hx <;> omega
    have em : min b L.length = L.length := by omega
    rw [em] at e1 e2
    have hmo3 : mo - L.length ≤ plen p := by
      split at hx <;> omega
    have elen2 : (L ++ den p).length = L.length + (plen p).toNat := by omega
    have en : (n : Int) = many := by
      have c1 : ((cdiv (L.length - a) f : Nat) : Int) + many = (cdiv (min b (L ++ den p).length - a) f : Nat) := by
        have em2 : ((min b (L ++ den p).length - a : Nat) : Int) = (if (b : Int) < (L.length : Int) + plen p then (b : Int) else (L.length : Int) + plen p) - a := by
          split at hx <;> omega
        refine fdiv_cdiv hf ?_ ?_
        · rw [em2]
          have := b2.1
          have e3 : (((cdiv (L.length - a) f : Nat) : Int) + many - 1) * f = (cdiv (L.length - a) f : Nat) * (f : Int) + (many - 1) * f := by
            rw [show ((cdiv (L.length - a) f : Nat) : Int) + many - 1 = (cdiv (L.length - a) f : Nat) + (many - 1) by omega, Int.add_mul]
          rw [e3]
          omega
        · rw [em2]
          have := b2.2
          rw [Int.add_mul]
          omega
      omega
    have hpk := newPc_ok (f := (f : Int)) hp (show 0 ≤ mo - L.length by omega) (show 1 ≤ many by omega) (by omega)
    refine ⟨by omega, hmo3, hpk, ?_⟩
    rw [e1]
    congr 1
    refine List.ext_getElem? fun i => ?_
    by_cases hi : i < n
    · rw [List.getElem?_map, List.getElem?_range hi]
      have hif : ((i * f : Nat) : Int) = (i : Int) * f := Int.natCast_mul _ _
      have hbd : mo - L.length + (i : Int) * f < plen p := by
        have h3 : (i : Int) * f ≤ (many - 1) * f := Int.mul_le_mul_of_nonneg_right (by omega) (by omega)
        have := b2.1
        split at this <;> omega
      rw [newPc_get (by omega) (by omega) (by omega) hbd]
      simp only [Option.map_some]
      have hix : a + (cdiv (L.length - a) f + i) * f = L.length + (mo - L.length + (i : Int) * f).toNat := by
        rw [Nat.add_mul]
        have h4 : 0 ≤ (i : Int) * f := Int.mul_nonneg (by omega) (by omega)
        omega
      rw [hix, List.getD_eq_getElem?_getD, List.getElem?_append_right (by omega), Nat.add_sub_cancel_left]
      have hbl : (mo - L.length + (i : Int) * f).toNat < (den p).length := by
        rw [den_len]
        have h4 : 0 ≤ (i : Int) * f := Int.mul_nonneg (by omega) (by omega)
        omega
      rw [List.getElem?_eq_getElem hbl]
      rfl
    · rw [List.getElem?_eq_none_iff.mpr (by rw [List.length_map, List.length_range]; omega), List.getElem?_eq_none_iff.mpr (by rw [newPc_len]; omega)]
  · rw [if_neg hm]
    have hx : (if (b : Int) < (L.length : Int) + plen p then (b : Int) else (L.length : Int) + plen p) - mo ≤ 0 := by
      have h0 : many * (f : Int) ≤ 0 * f := Int.mul_le_mul_of_nonneg_right (by omega) (by omega)
      omega
    have en : n = 0 := by
      have c1 : cdiv (min b (L ++ den p).length - a) f ≤ cdiv (min b L.length - a) f := by
        rw [cdiv_le hf]
        by_cases hb : b ≤ L.length
        · have : min b (L ++ den p).length - a = min b L.length - a := by omega
          rw [this]
          exact (cdiv_le hf).mp (Nat.le_refl _)
        · have em : min b L.length = L.length := by omega
          rw [em]
          split at hx <;> omega
      omega
    rw [e1, en]
    simp
end K24

/-! part Fw -/
set_option Elab.async false
set_option linter.all false
set_option maxRecDepth 100000
set_option maxHeartbeats 4000000
namespace K24
open PySem PySem.Spec PyProof.Rows L2
/-! ### the text by places -/
def top (i : Nat) : Stmt := PySem.Challenge.pw_everyseek_k24_whole_algebra_of_edits.main.body.getD i (.Pass ⟨0, 0, 0, 0⟩)
/-- a def of the module, a method -/
abbrev dN (x : Str) (i : Nat) : He.DefD := ⟨(x, none), x, x, defArgs (top i), defBody (top i), defScope (top i), [], []⟩
abbrev dM (C m q : Str) (i j : Nat) : He.DefD := ⟨(C, some m), m, q, defArgs (inClass (top i) j), defBody (inClass (top i) j), defScope (inClass (top i) j), [], []⟩
/-- it stands in the written part -/
def Has (K : PySem.W.Frag) (d : He.DefD) : Prop := ∃ fd, FunD K d.name d.qual d.params d.body d.scope [] [] (He.fAd K d.at_) fd
/-! ### a def keeps its promise; how it is called -/
structure OkG (P : Program) (w : World) (K : PySem.W.Frag) (mg : Str → Option Value) (base : Heap) (k : Nat) (x : Str) (ps : List Str) (sp : Sp) : Prop where
  ex : ∃ f fd, FnOk P w K mg base (L2.CX P w) k f fd ps sp ∧ Binds K fd ps [] ∧ PySem.W.keepIn K (.ref f) = true ∧ mg x = some (.ref f)
structure OkM (P : Program) (w : World) (K : PySem.W.Frag) (mg : Str → Option Value) (base : Heap) (k : Nat) (C : Addr) (m : Str) (ps : List Str) (sp : Sp) : Prop where
  ex : ∃ f fd, FnOk P w K mg base (L2.CX P w) k f fd ps sp ∧ Binds K fd ps [] ∧ Cls K C ∧ Meth K C m f
structure OkN (P : Program) (w : World) (K : PySem.W.Frag) (mg : Str → Option Value) (base : Heap) (k : Nat) (C : Addr) (x : Str) (ps : List Str) (sp : Sp) : Prop where
  ex : ∃ f fd, FnOk P w K mg base (L2.CX P w) k f fd ps sp ∧ Binds K fd ps [] ∧ Mk K C f ∧ mg x = some (.ref C)
section
variable {X : Cx} {k : Nat} {x m : Str} {C : Addr} {ps : List Str} {sp : Sp} {E : XK} {e o : Expr} {es : List Expr} {p apos pos : Pos} {t : TA} {ta : TE}
theorem pe_cG (G : OkG X.prog X.w X.K X.mg X.base k x ps sp) (hr : Room k X.A) (hg : Gl X x) (hx : Passes (L2.CX X.prog X.w) X E) (ha : PA X (e :: es) t)
    (hdb : (x == ("__debug__" : Str)) = false := by decide) (he : starEach (e :: es) X.env = (false, eval e X.env) :: starEach es X.env := by rfl)
    (hpl : (backTo pos (starEach es X.env)).any (·.1) = false := by rfl) : PE X (.Call (.Name x p) (e :: es) [] pos) (tCall sp [] E t) := by
  obtain ⟨f, fd, F, b, kp, hm⟩ := G.ex
  exact pe_call F hr hg hm kp b .nil hx ha hdb he hpl
theorem pe_nG (G : OkN X.prog X.w X.K X.mg X.base k C x ps sp) (hr : Room (k + 1) X.A) (hg : Gl X x) (hx : Passes (L2.CX X.prog X.w) X E) (ha : PA X (e :: es) t)
    (hdb : (x == ("__debug__" : Str)) = false := by decide) (he : starEach (e :: es) X.env = (false, eval e X.env) :: starEach es X.env := by rfl)
    (hpl : (backTo pos (starEach es X.env)).any (·.1) = false := by rfl) : PE X (.Call (.Name x p) (e :: es) [] pos) (tMake C sp [] E t) := by
  obtain ⟨f, fd, F, b, mk, hm⟩ := G.ex
  exact pe_make mk F hr hg hm b .nil hx ha hdb he hpl
theorem pe_mG {pl : Sem Bool} (he : PE X o ta) (G : OkM X.prog X.w X.K X.mg X.base k C m ps sp) (hr : Room k X.A) (hx : Passes (L2.CX X.prog X.w) X E) (ha : PA X (e :: es) t)
    (hst : starEach (e :: es) X.env = (false, eval e X.env) :: starEach es X.env := by rfl) (hpl : (backTo pos (starEach es X.env)).any (·.1) = false := by rfl)
    (ht : eval (.Call (.Attribute o m apos) (e :: es) [] pos) X.env = (do
      let ov ← eval o X.env
      standAt apos.atName
      let (f, first) ← holding [ov] (getMethod ov m pl)
      callWith pos f first (backTo pos (starEach (e :: es) X.env)) (backToKw pos (keywordEach [] X.env))) := by rfl) :
    PE X (.Call (.Attribute o m apos) (e :: es) [] pos) (tMeth C m sp [] E ta t) := by
  obtain ⟨f, fd, F, b, c, hm⟩ := G.ex
  exact pe_meth he c hm F hr b .nil hx ha hst hpl ht
end
section
variable {P : Program} {w : World} {K : PySem.W.Frag} {mg : Str → Option Value} {base : Heap}
theorem okG {d : He.DefD} {x : Str} {N ps : List Str} {k : Nat} {sp : Sp} (D : Has K d) (g : mg x = some (.ref (He.fAd K d.at_))) (S : FnScope N ps d.scope)
    (hb : ∀ (kV doc pm : Value) (an : Option Addr) (cdv ct : Value) (us : List Value), us.length = ps.length → bindArgs (PySem.W.fnOf d.name d.qual d.params d.body d.scope .none kV doc pm an cdv ct) ⟨us, []⟩ = pure (ps.zip us))
    (len : ∀ vs H Q E, sp vs H Q E → vs.length = ps.length)
    (hbody : ∀ (f : Addr) (cdv : Value) (A : Around) (outer : List Env) (s : Shared) (H : Hp) (vs : List V) (Q : VK) (E : XK), Room k (A.deeper (envOfC d.qual d.scope s.heap.objs.size f cdv)) → sp vs H Q E →
      ∃ t, PSs (cxOf (L2.CX P w) P w K mg base N d.qual d.scope f cdv A outer s H E) d.body t ∧ t { nx := fun _ H' => Q .non H', rt := Q } (start N vs) H) : OkG P w K mg base (k + 1) x ps sp := by
  obtain ⟨fd, F⟩ := D
  exact ⟨_, fd, F.ok S len (hbody _), F.bindsN hb, F.kp, g⟩
theorem okM {d : He.DefD} {C : Addr} {m : Str} {N ps : List Str} {k : Nat} {sp : Sp} (D : Has K d) (c : Cls K C) (g : Meth K C m (He.fAd K d.at_)) (S : FnScope N ps d.scope)
    (hb : ∀ (kV doc pm : Value) (an : Option Addr) (cdv ct : Value) (us : List Value), us.length = ps.length → bindArgs (PySem.W.fnOf d.name d.qual d.params d.body d.scope .none kV doc pm an cdv ct) ⟨us, []⟩ = pure (ps.zip us))
    (len : ∀ vs H Q E, sp vs H Q E → vs.length = ps.length)
    (hbody : ∀ (f : Addr) (cdv : Value) (A : Around) (outer : List Env) (s : Shared) (H : Hp) (vs : List V) (Q : VK) (E : XK), Room k (A.deeper (envOfC d.qual d.scope s.heap.objs.size f cdv)) → sp vs H Q E →
      ∃ t, PSs (cxOf (L2.CX P w) P w K mg base N d.qual d.scope f cdv A outer s H E) d.body t ∧ t { nx := fun _ H' => Q .non H', rt := Q } (start N vs) H) : OkM P w K mg base (k + 1) C m ps sp := by
  obtain ⟨fd, F⟩ := D
  exact ⟨_, fd, F.ok S len (hbody _), F.bindsN hb, c, g⟩
theorem okN {d : He.DefD} {C : Addr} {x : Str} {N ps : List Str} {k : Nat} {sp : Sp} (D : Has K d) (M : Mk K C (He.fAd K d.at_)) (g : mg x = some (.ref C)) (S : FnScope N ps d.scope)
    (hb : ∀ (kV doc pm : Value) (an : Option Addr) (cdv ct : Value) (us : List Value), us.length = ps.length → bindArgs (PySem.W.fnOf d.name d.qual d.params d.body d.scope .none kV doc pm an cdv ct) ⟨us, []⟩ = pure (ps.zip us))
    (len : ∀ vs H Q E, sp vs H Q E → vs.length = ps.length)
    (hbody : ∀ (f : Addr) (cdv : Value) (A : Around) (outer : List Env) (s : Shared) (H : Hp) (vs : List V) (Q : VK) (E : XK), Room k (A.deeper (envOfC d.qual d.scope s.heap.objs.size f cdv)) → sp vs H Q E →
      ∃ t, PSs (cxOf (L2.CX P w) P w K mg base N d.qual d.scope f cdv A outer s H E) d.body t ∧ t { nx := fun _ H' => Q .non H', rt := Q } (start N vs) H) : OkN P w K mg base (k + 1) C x ps sp := by
  obtain ⟨fd, F⟩ := D
  exact ⟨_, fd, F.ok S len (hbody _), F.bindsN hb, M, g⟩
end
/-- what the module's names hold -/
structure Tx (K : PySem.W.Frag) (mg : Str → Option Value) : Prop where
  isinstance : mg "isinstance" = none
  len : mg "len" = none
  sum : mg "sum" = none
  tuple : mg "tuple" = none
  list : mg "list" = none
  dict : mg "dict" = none
  zip : mg "zip" = none
  max : mg "max" = none
  min : mg "min" = none
  int : mg "int" = none
  bool : mg "bool" = none
  str : mg "str" = none
  enumerate : mg "enumerate" = none
  all : mg "all" = none
  range : mg "range" = none
  abs : mg "abs" = none
  sorted : mg "sorted" = none
  repr : mg "repr" = none
  MAX_LENGTH : ∃ t, mg "MAX_LENGTH" = some (.int 1000000000 t)
  MAX_LANES : ∃ t, mg "MAX_LANES" = some (.int 4 t)
  MAX_NAME : ∃ t, mg "MAX_NAME" = some (.int 8 t)
  MAX_SAMPLES : ∃ t, mg "MAX_SAMPLES" = some (.int 40 t)
  MAX_PIECES : ∃ t, mg "MAX_PIECES" = some (.int 60 t)
  MAX_SIZE : ∃ t, mg "MAX_SIZE" = some (.int 1000000000 t)
  MAX_TICKS : ∃ t, mg "MAX_TICKS" = some (.int 1000000 t)
  LETTERS : ∃ t, mg "LETTERS" = some (.str "abcdefghijklmnopqrstuvwxyz" t)
theorem pe_gC {X : Cx} {x : Str} {v : V} {pos : Pos} (hg : Gl X x) (hm : ∃ u, X.mg x = some u ∧ RelV v u) (hd : (x == ("__debug__" : Str)) = false := by decide) : PE X (.Name x pos) (tC v) := by
  obtain ⟨u, h1, h2⟩ := hm
  exact pe_glob hg h1 h2 hd
theorem cI {mg : Str → Option Value} {x : Str} {i : Int} (h : ∃ t, mg x = some (.int i t)) : ∃ u, mg x = some u ∧ RelV (.int i) u := by
  obtain ⟨t, h⟩ := h
  exact ⟨_, h, t, rfl⟩
theorem cS {mg : Str → Option Value} {x z : Str} (h : ∃ t, mg x = some (.str z t)) : ∃ u, mg x = some u ∧ RelV (.str z) u := by
  obtain ⟨t, h⟩ := h
  exact ⟨_, h, t, rfl⟩
theorem un64 {k : Nat} {A : Around} (hr : Room k A) : A.units + 64 < cLine := Nat.lt_of_le_of_lt (by omega) hr.un
end K24

/-! part D1 -/
set_option Elab.async false
set_option linter.all false
set_option maxRecDepth 100000
set_option maxHeartbeats 4000000
namespace K24
open PySem PySem.Spec PyProof.Rows L2
/-! ### is_integer -/
def isI : V → Int → Bool
  | .int i, l => decide (l ≤ i)
  | _, _ => false
def Sca (v : V) : Prop := v = .non ∨ (∃ b, v = .bl b) ∨ ∃ i, v = .int i
def spInt : Sp := fun vs H Q _ => ∃ (v : V) (l : Int), vs = [v, .int l] ∧ Sca v ∧ Q (.bl (isI v l)) H
section
variable {P : Program} {w : World} {K : PySem.W.Frag} {mg : Str → Option Value} {base : Heap}
theorem sc_is_integer : FnScope ["value", "least"] ["value", "least"] (defScope (top 12)) := ⟨rfl, rfl, rfl, by decide +kernel, rfl, by decide +kernel, by decide +kernel⟩
theorem ok_is_integer (T : Tx K mg) (D : Has K (dN "is_integer" 12)) (g : mg "is_integer" = some (.ref (He.fAd K ("is_integer", none)))) : OkG P w K mg base 1 "is_integer" ["value", "least"] spInt := by
  refine okG D g sc_is_integer (fun _ _ _ _ _ _ us hl => match us, hl with | [_, _], _ => rfl) (fun vs H Q E h => ?_) (fun f cdv A outer s H vs Q E hr h => ?_)
  · obtain ⟨v, l, rfl, _⟩ := h
    rfl
  · obtain ⟨v, l, rfl, hv, q⟩ := h
    refine ⟨_, PSs.nox (pss_one (ps_ret (pe_and (pe_callB call_isi (by rfl) T.isinstance (by decide +kernel) (pa_cons (pv 0) (pa_cons (pe_bltn (v := .ty "int") (by rfl) T.int (by decide +kernel) rfl) pa_nil))) (pe_and (pe_not (pe_callB call_isi (by rfl) T.isinstance (by decide +kernel) (pa_cons (pv 0) (pa_cons (pe_bltn (v := .ty "bool") (by rfl) T.bool (by decide +kernel) rfl) pa_nil)))) (pe_one (pe_cmpR op_ge (pv 0) (pv 1) (nomark _))))))), ?_⟩
    rcases hv with rfl | ⟨b, rfl⟩ | ⟨i, rfl⟩
    · exact ⟨_, rfl, _, _, _, _, false, rfl, .ty _, .base .non, kit_ty (by decide +kernel), _, rfl, q⟩
    · refine ⟨_, rfl, _, _, _, _, true, rfl, .ty _, .base (.bl b), kit_ty (by decide +kernel), _, rfl, ?_⟩
      exact ⟨_, rfl, _, _, _, _, true, rfl, .ty _, .base (.bl b), kit_ty (by decide +kernel), _, rfl, _, rfl, q⟩
    · refine ⟨_, rfl, _, _, _, _, true, rfl, .ty _, .base (.int i), kit_ty (by decide +kernel), _, rfl, ?_⟩
      refine ⟨_, rfl, _, _, _, _, false, rfl, .ty _, .base (.int i), kit_ty (by decide +kernel), _, rfl, _, rfl, ?_⟩
      exact ⟨_, rfl, _, rfl, _, _, rfl, rfl, q⟩
end
end K24

/-! part D2 -/
set_option Elab.async false
set_option linter.all false
set_option maxRecDepth 100000
set_option maxHeartbeats 4000000
namespace K24
open PySem PySem.Spec PyProof.Rows L2
/-! ### data on the heap -/
def pcV : Pc → List V
  | .no n => [.str "nothing", .int n]
  | .pl s l t => [.str "play", .int s, .int l, .int t]
/-- rs: where tuples stand that hold the xs -/
abbrev Tp {α : Type} (f : α → List V) (H : Hp) (rs : List Addr) (xs : List α) : Prop := Paired (fun r x => H r = some (.tup (f x))) rs xs
def TL {α : Type} (f : α → List V) (H : Hp) (a : Addr) (xs : List α) : Prop := ∃ rs, H a = some (.lst (rs.map V.ref)) ∧ Tp f H rs xs
def TT {α : Type} (f : α → List V) (H : Hp) (a : Addr) (xs : List α) : Prop := ∃ rs, H a = some (.tup (rs.map V.ref)) ∧ Tp f H rs xs
/-- all but lists of two ints is kept -/
def Two (o : HO) : Prop := ∃ i j, o = .lst [.int i, .int j]
def SameF (H H' : Hp) : Prop := ∀ b o, H b = some o → ¬ Two o → H' b = some o
theorem SameF.of {H H' : Hp} (h : Same H H') : SameF H H' := fun b o e _ => h b o e
theorem SameF.refl (H : Hp) : SameF H H := fun _ _ e _ => e
theorem SameF.trans {H H1 H2 : Hp} (a : SameF H H1) (b : SameF H1 H2) : SameF H H2 := fun c o e n => b c o (a c o e n) n
theorem SameF.tup {H H' : Hp} (s : SameF H H') {a : Addr} {xs : List V} (h : H a = some (.tup xs)) : H' a = some (.tup xs) := s a _ h (fun ⟨_, _, e⟩ => by cases e)
theorem refs_two {rs : List Addr} : ¬ Two (.lst (rs.map V.ref)) := fun ⟨i, j, e⟩ => by
  cases rs with
  | nil => cases e
  | cons r rs => cases e
theorem SameF.refs {H H' : Hp} (s : SameF H H') {a : Addr} {rs : List Addr} (h : H a = some (.lst (rs.map V.ref))) : H' a = some (.lst (rs.map V.ref)) := s a _ h refs_two
theorem Tp.keep {α : Type} {f : α → List V} {H H' : Hp} {rs : List Addr} {xs : List α} (h : Tp f H rs xs) (s : SameF H H') : Tp f H' rs xs := Paired.mapP h fun _ _ z => s.tup z
theorem TL.keep {α : Type} {f : α → List V} {H H' : Hp} {a : Addr} {xs : List α} (h : TL f H a xs) (s : SameF H H') : TL f H' a xs := by
  obtain ⟨rs, h1, h2⟩ := h
  exact ⟨rs, s.refs h1, h2.keep s⟩
theorem TT.keep {α : Type} {f : α → List V} {H H' : Hp} {a : Addr} {xs : List α} (h : TT f H a xs) (s : SameF H H') : TT f H' a xs := by
  obtain ⟨rs, h1, h2⟩ := h
  exact ⟨rs, s.tup h1, h2.keep s⟩
theorem _root_.L2.Same.new {H : Hp} {p : Addr} {o : HO} (h : H p = none) : Same H (upd H p o) := fun b u e => by
  rw [upd_ne (ne_of_none e h)]
  exact e
theorem _root_.L2.Same.up {H H1 : Hp} {p : Addr} {o : HO} (s : Same H H1) (h : H1 p = none) : Same H (upd H1 p o) := s.trans (Same.new h)
theorem Tp.len {α : Type} {f : α → List V} {H : Hp} {rs : List Addr} {xs : List α} (h : Tp f H rs xs) : rs.length = xs.length := Paired.length h
theorem paired_get {α β : Type} {F : α → β → Prop} : ∀ {l : List α} {m : List β} {i : Nat} {a : α}, Paired F l m → l[i]? = some a → ∃ b, m[i]? = some b ∧ F a b
  | _, _, _, _, .nil, e => by simp at e
  | _, _, 0, _, .cons r _, e => by
    have e := Option.some.inj e
    subst e
    exact ⟨_, rfl, r⟩
  | _, _, i + 1, a, .cons _ t, e => by
    obtain ⟨b, h1, h2⟩ := paired_get (i := i) (a := a) t e
    exact ⟨b, h1, h2⟩
theorem paired_append {α β : Type} {F : α → β → Prop} : ∀ {l l' : List α} {m m' : List β}, Paired F l m → Paired F l' m' → Paired F (l ++ l') (m ++ m')
  | _, _, _, _, .nil, s => s
  | _, _, _, _, .cons r t, s => .cons r (paired_append t s)
theorem paired_take {α β : Type} {F : α → β → Prop} : ∀ {l : List α} {m : List β} (n : Nat), Paired F l m → Paired F (l.take n) (m.take n)
  | _, _, 0, _ => .nil
  | _, _, _ + 1, .nil => .nil
  | _, _, n + 1, .cons r t => .cons r (paired_take n t)
theorem paired_snoc {α β : Type} {F : α → β → Prop} : ∀ {l : List α} {m : List β} {b : β}, Paired F l (m ++ [b]) → ∃ l' a, l = l' ++ [a] ∧ Paired F l' m ∧ F a b
  | _, [], _, .cons r t => by
    cases t
    exact ⟨[], _, rfl, .nil, r⟩
  | _, c :: m, _, .cons r t => by
    obtain ⟨l', a, e, h1, h2⟩ := paired_snoc (m := m) t
    exact ⟨_ :: l', a, by rw [e]; rfl, .cons r h1, h2⟩
theorem map_get {rs : List Addr} {i : Nat} {y : V} (h : (rs.map V.ref)[i]? = some y) : ∃ r, rs[i]? = some r ∧ y = .ref r := by
  rw [List.getElem?_map] at h
  cases e : rs[i]? with
  | none => rw [e] at h; cases h
  | some r => rw [e] at h; exact ⟨r, rfl, (Option.some.inj h).symm⟩
/-! ### the data of pieces, for == -/
def pcD : Pc → PyData
  | .no n => .tuple [.str "nothing", .int n]
  | .pl s l t => .tuple [.str "play", .int s, .int l, .int t]
theorem pc_dp {K : PySem.W.Frag} {H : Hp} {r : Addr} {p : Pc} (h : H r = some (.tup (pcV p))) : Dp K H (.ref r) (pcD p) := by
  cases p with
  | no n => exact .tup (SqT.of h) (.cons (.str _) (.cons (.int _) .nil))
  | pl s l t => exact .tup (SqT.of h) (.cons (.str _) (.cons (.int _) (.cons (.int _) (.cons (.int _) .nil))))
theorem pcs_dp {K : PySem.W.Frag} {H : Hp} : ∀ {rs : List Addr} {ps : List Pc}, Tp pcV H rs ps → DpAll K H (rs.map V.ref) (ps.map pcD)
  | _, _, .nil => .nil
  | _, _, .cons h t => .cons (pc_dp h) (pcs_dp t)
end K24

/-! part D3 -/
set_option Elab.async false
set_option linter.all false
set_option maxRecDepth 100000
set_option maxHeartbeats 4000000
namespace K24
open PySem PySem.Spec PyProof.Rows L2
/-! ### a list against [] -/
def rNilB (neg : Bool) : R2 := fun x y H Q => ∃ a b xs, x = .ref a ∧ y = .ref b ∧ H a = some (.lst xs) ∧ H b = some (.lst []) ∧ Q (.bl (if neg then !xs.isEmpty else xs.isEmpty)) H
theorem nil_sizes {its its2 : List Value} {xs : List V} (r : Vals xs its) (r2 : Vals [] its2) : (xs = [] ∧ its.toArray.size = its2.toArray.size) ∨ (xs.isEmpty = false ∧ (its.toArray.size != its2.toArray.size) = true) := by
  cases r2
  cases r with
  | nil => exact .inl ⟨rfl, rfl⟩
  | cons _ _ => exact .inr ⟨rfl, by simp⟩
theorem op_neNil {X : Cx} {k : Nat} (hr : Room k X.A) : OpR X (compareOp .NotEq) (rNilB true) := by
  intro pins s σ H x y v u Q I rx ry h
  obtain ⟨a, b, xs, rfl, rfl, ea, eb, q⟩ := h
  obtain rfl : v = Value.ref a := rx
  obtain rfl : u = Value.ref b := ry
  obtain ⟨_, i1, n1, r1, _, g1⟩ := I.lstM ea
  obtain ⟨_, i2, n2, r2, _, g2⟩ := I.lstM eb
  have hu : X.A.units < cLine := by have := hr.un; omega
  rcases nil_sizes r1 r2 with ⟨rfl, hz⟩ | ⟨hx, hz⟩
  · have e0 : i1.toArray.size = 0 := by cases r1; rfl
    have z := SeqAt.RcNeAt.lists (e := fun _ => true) ⟨_, g1, rfl, n1, rfl⟩ ⟨_, g2, rfl, n2, rfl⟩ hz hu (fun j h1 => by omega)
    rw [e0] at z
    exact z X.prog X.w X.xe _ ⟨.bl false, H, I, rfl, q⟩
  · rw [hx] at q
    exact SeqAt.RcNeAt.lists_lengths ⟨_, g1, rfl, n1, rfl⟩ ⟨_, g2, rfl, n2, rfl⟩ hz hu X.prog X.w X.xe _ ⟨.bl true, H, I, rfl, q⟩
theorem op_eqNil {X : Cx} {k : Nat} (hr : Room k X.A) : OpR X (compareOp .Eq) (rNilB false) := by
  intro pins s σ H x y v u Q I rx ry h
  obtain ⟨a, b, xs, rfl, rfl, ea, eb, q⟩ := h
  obtain rfl : v = Value.ref a := rx
  obtain rfl : u = Value.ref b := ry
  obtain ⟨_, i1, n1, r1, _, g1⟩ := I.lstM ea
  obtain ⟨_, i2, n2, r2, _, g2⟩ := I.lstM eb
  have hu : X.A.units < cLine := by have := hr.un; omega
  rcases nil_sizes r1 r2 with ⟨rfl, hz⟩ | ⟨hx, hz⟩
  · have e0 : i1.toArray.size = 0 := by cases r1; rfl
    have z := SeqAt.RcAt.lists (e := fun _ => true) ⟨_, g1, rfl, n1, rfl⟩ ⟨_, g2, rfl, n2, rfl⟩ hz hu (fun j h1 => by omega)
    rw [e0] at z
    exact z X.prog X.w X.xe _ ⟨.bl true, H, I, rfl, q⟩
  · rw [hx] at q
    exact SeqAt.RcAt.lists_lengths ⟨_, g1, rfl, n1, rfl⟩ ⟨_, g2, rfl, n2, rfl⟩ hz hu X.prog X.w X.xe _ ⟨.bl false, H, I, rfl, q⟩
/-! ### promises -/
abbrev BIG : Int := 1099511627776
def spIsPc : Sp := fun vs H Q _ => ∃ (r : Addr) (p : Pc), vs = [.ref r] ∧ H r = some (.tup (pcV p)) ∧ Pok p ∧ Q (.bl true) H
def spLen : Sp := fun vs H Q _ => ∃ (r : Addr) (p : Pc), vs = [.ref r] ∧ H r = some (.tup (pcV p)) ∧ Q (.int (plen p)) H
def spPlay : Sp := fun vs H Q _ => ∃ s l t : Int, vs = [.int s, .int l, .int t] ∧ ∀ r, H r = none → Q (.ref r) (upd H r (.tup (pcV (ply s l t))))
def spTaken : Sp := fun vs H Q _ => ∃ (r : Addr) (p : Pc) (s l t : Int), vs = [.ref r, .int s, .int l, .int t] ∧ H r = some (.tup (pcV p)) ∧ 0 ≤ plen p ∧ plen p ≤ BIG ∧ Q (.int (takenBy p s l t)) H
def spWith : Sp := fun vs H Q _ => ∃ (a r : Addr) (ps : List Pc) (p : Pc), vs = [.ref a, .ref r] ∧ TL pcV H a ps ∧ H r = some (.tup (pcV p)) ∧ Can ps ∧ Pok p ∧ ps.length ≤ 1000000 ∧ ((dens ps).length : Int) + plen p ≤ BIG ∧
  ∀ H' a' ps', Same H H' → TL pcV H' a' ps' → Can ps' → dens ps' = dens ps ++ den p → ps'.length ≤ ps.length + 1 → Q (.ref a') H'
def spFar : Sp := fun vs H Q _ => ∃ (a : Addr) (ps : List Pc), vs = [.ref a] ∧ TL pcV H a ps ∧ (∀ p ∈ ps, Pok p) ∧ ps.length ≤ 1000000 ∧ ((dens ps).length : Int) ≤ BIG ∧
  ∀ H' a' ps', Same H H' → TL pcV H' a' ps' → Can ps' → dens ps' = dens ps → ps'.length ≤ ps.length → Q (.ref a') H'
/-- the V of "nothing" -/
theorem head_eq (p : Pc) : (pcV p)[0]? = some (.str (match p with | .no _ => "nothing" | .pl _ _ _ => "play")) := by cases p <;> rfl
theorem ne_np : ¬ (("play" : Str) = "nothing") := by decide +kernel
theorem ne_pn : ¬ (("nothing" : Str) = "play") := by decide +kernel
theorem dec_nn : decide (V.str "nothing" = V.str "nothing") = true := decide_eq_true rfl
theorem dec_pn : decide (V.str "play" = V.str "nothing") = false := decide_eq_false fun e => ne_np (V.str.inj e)
theorem dec_np : decide (V.str "nothing" = V.str "play") = false := decide_eq_false fun e => ne_pn (V.str.inj e)
theorem dec_pp : decide (V.str "play" = V.str "play") = true := decide_eq_true rfl
theorem at0 {xs : List V} {v : V} (h : xs[0]? = some v) : atI xs 0 = some v := atI_nat (j := 0) h
theorem at1 {xs : List V} {v : V} (h : xs[1]? = some v) : atI xs 1 = some v := atI_nat (j := 1) h
theorem at2 {xs : List V} {v : V} (h : xs[2]? = some v) : atI xs 2 = some v := atI_nat (j := 2) h
theorem at3 {xs : List V} {v : V} (h : xs[3]? = some v) : atI xs 3 = some v := atI_nat (j := 3) h
section
variable {P : Program} {w : World} {K : PySem.W.Frag} {mg : Str → Option Value} {base : Heap}
theorem sc_is_piece : FnScope ["value"] ["value"] (defScope (top 15)) := ⟨rfl, rfl, rfl, by decide +kernel, rfl, by decide +kernel, by decide +kernel⟩
theorem ok_is_piece (T : Tx K mg) (D : Has K (dN "is_piece" 15)) (g : mg "is_piece" = some (.ref (He.fAd K ("is_piece", none)))) (G_is_integer : OkG P w K mg base 1 "is_integer" ["value", "least"] spInt) :
    OkG P w K mg base 2 "is_piece" ["value"] spIsPc := by
  refine okG D g sc_is_piece (fun _ _ _ _ _ _ us hl => match us, hl with | [_], _ => rfl) (fun vs H Q E h => ?_) (fun f cdv A outer s H vs Q E hr h => ?_)
  · obtain ⟨r, p, rfl, _⟩ := h
    rfl
  · obtain ⟨r, p, rfl, hp, ok, q⟩ := h
    refine ⟨_, PSs.nox (pss_cons (ps_if (PW.pt (pw_or (pt_not (pt_val (pe_callB call_isi (by rfl) T.isinstance (by decide +kernel) (pa_cons (pv 0) (pa_cons (pe_bltn (v := .ty "tuple") (by rfl) T.tuple (by decide +kernel) rfl) pa_nil))))) (pw_or1 (pt_cmpR op_eq (pe_callB call_len (by rfl) T.len PySem.boot_len (pa_cons (pv 0) pa_nil)) pe_int (nomark _)))))
        (pss_one (ps_ret pe_bl))
        pss_nil)
      (pss_cons (ps_if (pt_cmpR op_eq (pe_ix ix_tup (pv 0) pe_int (fun _ _ => rfl)) pe_str (nomark _))
        (pss_one (ps_ret (pe_and (pe_cmpR op_eq (pe_callB call_len (by rfl) T.len PySem.boot_len (pa_cons (pv 0) pa_nil)) pe_int (nomark _)) (pe_one (pe_cG G_is_integer hr rfl passL (pa_cons (pe_ix ix_tup (pv 0) pe_int (fun _ _ => rfl)) (pa_cons pe_int pa_nil)))))))
        pss_nil)
      (pss_cons (ps_if (PW.pt (pw_or (pt_cmpR op_ne (pe_ix ix_tup (pv 0) pe_int (fun _ _ => rfl)) pe_str (nomark _)) (pw_or1 (pt_cmpR op_ne (pe_callB call_len (by rfl) T.len PySem.boot_len (pa_cons (pv 0) pa_nil)) pe_int (nomark _)))))
        (pss_one (ps_ret pe_bl))
        pss_nil)
      (pss_one (ps_ret (pe_and (pe_cG G_is_integer hr rfl passL (pa_cons (pe_ix ix_tup (pv 0) pe_int (fun _ _ => rfl)) (pa_cons pe_int pa_nil))) (pe_and (pe_cG G_is_integer hr rfl passL (pa_cons (pe_ix ix_tup (pv 0) pe_int (fun _ _ => rfl)) (pa_cons pe_int pa_nil))) (pe_one (pe_cG G_is_integer hr rfl passL (pa_cons (pe_ix ix_tup (pv 0) pe_int (fun _ _ => rfl)) (pa_cons pe_int pa_nil))))))))))), ?_⟩
    have hT : SqT K H r (pcV p) := SqT.of hp
    refine ⟨_, rfl, _, _, _, _, true, rfl, .ty _, .base (.tup hp), kit_ty (by decide +kernel), _, rfl, ?_⟩
    cases p with
    | no n =>
      have hn : 1 ≤ n := ok
      refine ⟨_, rfl, _, 2, rfl, .inr ⟨_, hT, rfl⟩, rfl, _, rfl, ?_⟩
      refine ⟨_, rfl, _, _, _, _, rfl, rfl, hT, at0 rfl, rfl, _, rfl, ?_⟩
      rw [dec_nn]
      refine ⟨_, rfl, _, 2, rfl, .inr ⟨_, hT, rfl⟩, rfl, _, rfl, ?_⟩
      refine ⟨_, rfl, _, _, _, _, rfl, rfl, hT, at1 rfl, _, _, rfl, .inr (.inr ⟨_, rfl⟩), ?_⟩
      have e : isI (.int n) 1 = true := decide_eq_true hn
      rw [e]
      exact q
    | pl s l t =>
      have h1 : 0 ≤ s := ok.1
      have h2 : 1 ≤ l := ok.2.1
      have h3 : 1 ≤ t := ok.2.2
      refine ⟨_, rfl, _, 4, rfl, .inr ⟨_, hT, rfl⟩, rfl, _, rfl, ?_⟩
      refine ⟨_, rfl, _, _, _, _, rfl, rfl, hT, at0 rfl, rfl, _, rfl, ?_⟩
      rw [dec_pn]
      refine ⟨_, rfl, _, _, _, _, rfl, rfl, hT, at0 rfl, rfl, _, rfl, ?_⟩
      rw [dec_pp]
      refine ⟨_, rfl, _, 4, rfl, .inr ⟨_, hT, rfl⟩, rfl, _, rfl, ?_⟩
      have e1 : isI (.int s) 0 = true := decide_eq_true h1
      have e2 : isI (.int l) 1 = true := decide_eq_true h2
      have e3 : isI (.int t) 1 = true := decide_eq_true h3
      refine ⟨_, rfl, _, _, _, _, rfl, rfl, hT, at1 rfl, _, _, rfl, .inr (.inr ⟨_, rfl⟩), ?_⟩
      rw [e1]
      refine ⟨_, rfl, _, rfl, _, _, _, _, rfl, rfl, hT, at2 rfl, _, _, rfl, .inr (.inr ⟨_, rfl⟩), ?_⟩
      rw [e2]
      refine ⟨_, rfl, _, rfl, _, _, _, _, rfl, rfl, hT, at3 rfl, _, _, rfl, .inr (.inr ⟨_, rfl⟩), ?_⟩
      rw [e3]
      exact q
theorem sc_length_of : FnScope ["piece"] ["piece"] (defScope (top 16)) := ⟨rfl, rfl, rfl, by decide +kernel, rfl, by decide +kernel, by decide +kernel⟩
theorem ok_length_of (D : Has K (dN "length_of" 16)) (g : mg "length_of" = some (.ref (He.fAd K ("length_of", none)))) : OkG P w K mg base 1 "length_of" ["piece"] spLen := by
  refine okG D g sc_length_of (fun _ _ _ _ _ _ us hl => match us, hl with | [_], _ => rfl) (fun vs H Q E h => ?_) (fun f cdv A outer s H vs Q E hr h => ?_)
  · obtain ⟨r, p, rfl, _⟩ := h
    rfl
  · obtain ⟨r, p, rfl, hp, q⟩ := h
    refine ⟨_, PSs.nox (pss_one (ps_ret (pe_ifExp (pt_cmpR op_eq (pe_ix ix_tup (pv 0) pe_int (fun _ _ => rfl)) pe_str (nomark _)) (pe_ix ix_tup (pv 0) pe_int (fun _ _ => rfl)) (pe_ix ix_tup (pv 0) pe_int (fun _ _ => rfl))))), ?_⟩
    have hT : SqT K H r (pcV p) := SqT.of hp
    cases p with
    | no n =>
      refine ⟨_, rfl, _, _, _, _, rfl, rfl, hT, at0 rfl, rfl, _, rfl, ?_⟩
      rw [dec_nn]
      exact ⟨_, rfl, _, _, _, _, rfl, rfl, hT, at1 rfl, q⟩
    | pl s l t =>
      refine ⟨_, rfl, _, _, _, _, rfl, rfl, hT, at0 rfl, rfl, _, rfl, ?_⟩
      rw [dec_pn]
      exact ⟨_, rfl, _, _, _, _, rfl, rfl, hT, at2 rfl, q⟩
theorem sc_play : FnScope ["start", "length", "step"] ["start", "length", "step"] (defScope (top 17)) := ⟨rfl, rfl, rfl, by decide +kernel, rfl, by decide +kernel, by decide +kernel⟩
theorem ok_play (D : Has K (dN "play" 17)) (g : mg "play" = some (.ref (He.fAd K ("play", none)))) : OkG P w K mg base 1 "play" ["start", "length", "step"] spPlay := by
  refine okG D g sc_play (fun _ _ _ _ _ _ us hl => match us, hl with | [_, _, _], _ => rfl) (fun vs H Q E h => ?_) (fun f cdv A outer s H vs Q E hr h => ?_)
  · obtain ⟨s, l, t, rfl, _⟩ := h
    rfl
  · obtain ⟨s, l, t, rfl, q⟩ := h
    refine ⟨_, PSs.nox (pss_one (ps_ret (pe_tup (pa_cons pe_str (pa_cons (pv 0) (pa_cons (pv 1) (pa_cons (pe_ifExp (pt_cmpR op_gt (pv 1) pe_int (nomark _)) (pv 2) pe_int) pa_nil))))))), ?_⟩
    refine ⟨_, rfl, _, rfl, _, rfl, _, _, rfl, rfl, _, rfl, ?_⟩
    refine ite2 (fun h => ?_) (fun h => ?_)
    · have h : l > 1 := of_decide_eq_true h
      refine ⟨_, rfl, (by show 4 ≤ sizeLine; decide), fun r hr => ?_⟩
      have z := q r hr
      unfold ply at z
      rw [if_pos h] at z
      exact z
    · have h : ¬ l > 1 := fun x => h (decide_eq_true x)
      refine ⟨(by show 4 ≤ sizeLine; decide), fun r hr => ?_⟩
      have z := q r hr
      unfold ply at z
      rw [if_neg h] at z
      exact z
end
end K24

/-! part D4 -/
set_option Elab.async false
set_option linter.all false
set_option maxRecDepth 100000
set_option maxHeartbeats 4000000
namespace K24
open PySem PySem.Spec PyProof.Rows L2
theorem cut_init (xs : List V) (x : V) : cutV (xs ++ [x]) none (some (-1)) = xs := by
  unfold cutV
  have e1 : HT.sIx (xs ++ [x]).length 0 none = 0 := HT.sIx_none _ _
  have e2 : HT.sIx (xs ++ [x]).length (xs ++ [x]).length (some (-1)) = xs.length := by
    unfold HT.sIx
    simp
    omega
  rw [e1, e2]
  simp
theorem cut_tail (x : V) (xs : List V) : cutV (x :: xs) (some 1) none = xs := by
  unfold cutV
  have e1 : HT.sIx (x :: xs).length 0 (some 1) = 1 := by
    unfold HT.sIx
    simp
  have e2 : HT.sIx (x :: xs).length (x :: xs).length none = (x :: xs).length := HT.sIx_none _ _
  rw [e1, e2]
  simp
theorem last_snoc {α : Type} : ∀ (l : List α), l = [] ∨ ∃ i a, l = i ++ [a]
  | [] => .inl rfl
  | x :: r => by
    rcases last_snoc r with rfl | ⟨i, a, rfl⟩
    · exact .inr ⟨[], x, rfl⟩
    · exact .inr ⟨x :: i, a, rfl⟩
theorem big_size {n : Nat} (h : n ≤ 10000000) : n ≤ sizeLine := by rw [sizeLine_eq]; omega
theorem plen_le {ps : List Pc} {p : Pc} : ((den p).length : Int) ≤ ((dens (ps ++ [p])).length : Int) := by
  rw [dens_app, dens_one, List.length_append]
  omega
section
variable {P : Program} {w : World} {K : PySem.W.Frag} {mg : Str → Option Value} {base : Heap}
theorem sc_taken_by : FnScope ["last", "start", "length", "step"] ["last", "start", "length", "step"] (defScope (top 19)) := ⟨rfl, rfl, rfl, by decide +kernel, rfl, by decide +kernel, by decide +kernel⟩
theorem ok_taken_by (D : Has K (dN "taken_by" 19)) (g : mg "taken_by" = some (.ref (He.fAd K ("taken_by", none)))) : OkG P w K mg base 1 "taken_by" ["last", "start", "length", "step"] spTaken := by
  refine okG D g sc_taken_by (fun _ _ _ _ _ _ us hl => match us, hl with | [_, _, _, _], _ => rfl) (fun vs H Q E h => ?_) (fun f cdv A outer s H vs Q E hr h => ?_)
  · obtain ⟨r, p, s, l, t, rfl, _⟩ := h
    rfl
  · obtain ⟨r, p, s, l, t, rfl, hp, h0, hB, q⟩ := h
    refine ⟨_, PSs.nox (pss_cons (ps_if (pt_cmpR op_eq (pe_ix ix_tup (pv 0) pe_int (fun _ _ => rfl)) pe_str (nomark _))
        (pss_one (ps_ret pe_int))
        pss_nil)
      (pss_cons (ps_if (pt_cmpR op_eq (pe_ix ix_tup (pv 0) pe_int (fun _ _ => rfl)) pe_int (nomark _))
        (pss_one (ps_ret (pe_ifExp (pt_cmpR op_gt (pv 1) (pe_ix ix_tup (pv 0) pe_int (fun _ _ => rfl)) (nomark _)) pe_int pe_int)))
        pss_nil)
      (pss_cons (ps_if (pt_cmpR op_ne (pv 1) (pe_op op_add (pe_ix ix_tup (pv 0) pe_int (fun _ _ => rfl)) (pe_op op_mul (pe_ix ix_tup (pv 0) pe_int (fun _ _ => rfl)) (pe_ix ix_tup (pv 0) pe_int (fun _ _ => rfl)))) (nomark _))
        (pss_one (ps_ret pe_int))
        pss_nil)
      (pss_one (ps_ret (pe_ifExp (pt_cmpR op_eq (pv 3) (pe_ix ix_tup (pv 0) pe_int (fun _ _ => rfl)) (nomark _)) (pv 2) pe_int)))))), ?_⟩
    have hT : SqT K H r (pcV p) := SqT.of hp
    cases p with
    | no n =>
      refine ⟨_, rfl, _, _, _, _, rfl, rfl, hT, at0 rfl, rfl, _, rfl, ?_⟩
      rw [dec_nn]
      exact q
    | pl s0 l0 t0 =>
      have h0 : 0 ≤ l0 := h0
      have hB : l0 ≤ BIG := hB
      have eq : takenBy (.pl s0 l0 t0) s l t = (if l0 = 1 then (if s > s0 then 1 else 0) else if s ≠ s0 + l0 * t0 then 0 else if t = t0 then l else 1) := rfl
      rw [eq] at q
      refine ⟨_, rfl, _, _, _, _, rfl, rfl, hT, at0 rfl, rfl, _, rfl, ?_⟩
      rw [dec_pn]
      refine ⟨_, rfl, _, _, _, _, rfl, rfl, hT, at2 rfl, rfl, _, rfl, ?_⟩
      refine ite2 (fun h => ?_) (fun h => ?_)
      · have h : l0 = 1 := V.int.inj (of_decide_eq_true h)
        rw [if_pos h] at q
        refine ⟨_, rfl, _, rfl, _, _, _, _, rfl, rfl, hT, at1 rfl, _, _, rfl, rfl, _, rfl, ?_⟩
        refine ite2 (fun h => ?_) (fun h => ?_)
        · rw [if_pos (show s > s0 from of_decide_eq_true h)] at q
          exact q
        · rw [if_neg (show ¬ s > s0 from fun x => h (decide_eq_true x))] at q
          exact q
      · have h : ¬ l0 = 1 := fun x => h (decide_eq_true (by rw [x]))
        rw [if_neg h] at q
        refine ⟨_, rfl, _, rfl, _, _, _, _, rfl, rfl, hT, at1 rfl, _, rfl, _, _, _, _, rfl, rfl, hT, at2 rfl, _, rfl, _, _, _, _, rfl, rfl, hT, at3 rfl, _, _, rfl, rfl, .inl ⟨by omega, by have : BIG = 1099511627776 := rfl; omega⟩, _, _, rfl, rfl, rfl, _, rfl, ?_⟩
        refine ite2 (fun h => ?_) (fun h => ?_)
        · have h : s ≠ s0 + l0 * t0 := fun x => by
            rw [x, decide_eq_true rfl] at h
            cases h
          rw [if_pos h] at q
          exact q
        · have h : s = s0 + l0 * t0 := by
            by_cases z : s = s0 + l0 * t0
            · exact z
            · exact absurd (by rw [decide_eq_false fun e => z (V.int.inj e)]; rfl) h
          rw [if_neg (show ¬ s ≠ s0 + l0 * t0 from fun z => z h)] at q
          refine ⟨_, rfl, _, rfl, _, _, _, _, rfl, rfl, hT, at3 rfl, rfl, _, rfl, ?_⟩
          refine ite2 (fun h => ?_) (fun h => ?_)
          · rw [if_pos (show t = t0 from V.int.inj (of_decide_eq_true h))] at q
            exact ⟨_, rfl, q⟩
          · rw [if_neg (show ¬ t = t0 from fun x => h (decide_eq_true (by rw [x])))] at q
            exact q
theorem sc_with_piece : FnScope ["found", "piece", "start", "length", "step", "taken", "last"] ["found", "piece"] (defScope (top 18)) := ⟨rfl, rfl, rfl, by decide +kernel, rfl, by decide +kernel, by decide +kernel⟩
theorem ok_with_piece (D : Has K (dN "with_piece" 18)) (g : mg "with_piece" = some (.ref (He.fAd K ("with_piece", none)))) (G_taken_by : OkG P w K mg base 1 "taken_by" ["last", "start", "length", "step"] spTaken)
    (G_play : OkG P w K mg base 1 "play" ["start", "length", "step"] spPlay) : OkG P w K mg base 2 "with_piece" ["found", "piece"] spWith := by
  refine okG D g sc_with_piece (fun _ _ _ _ _ _ us hl => match us, hl with | [_, _], _ => rfl) (fun vs H Q E h => ?_) (fun f cdv A outer s H vs Q E hr h => ?_)
  · obtain ⟨a, r, ps, p, rfl, _⟩ := h
    rfl
  · obtain ⟨a, r, ps, p, rfl, hL, hp, hC, hpk, hz, hB, q⟩ := h
    refine ⟨_, PSs.nox (pss_cons (ps_if (pt_cmpR op_eq (pe_ix ix_tup (pv 1) pe_int (fun _ _ => rfl)) pe_str (nomark _))
        (pss_cons (ps_if (PW.pt (pw_and (pt_cmpR (op_neNil hr) (pv 0) (pe_lst pa_nil) (nomark _)) (pw_and1 (pt_cmpR op_eq (pe_ix ix_tup (pe_ix ix_list (pv 0) (pe_un un_neg pe_int) (fun _ _ => rfl)) pe_int (fun _ _ => rfl)) pe_str (nomark _)))))
            (pss_one (ps_ret (pe_op op_cat (pe_slice sl_list (pv 0) po_none (po_some (pe_un un_neg pe_int))) (pe_lst (pa_cons (pe_tup (pa_cons pe_str (pa_cons (pe_op op_add (pe_ix ix_tup (pe_ix ix_list (pv 0) (pe_un un_neg pe_int) (fun _ _ => rfl)) pe_int (fun _ _ => rfl)) (pe_ix ix_tup (pv 1) pe_int (fun _ _ => rfl))) pa_nil))) pa_nil)))))
            pss_nil)
          (pss_one (ps_ret (pe_op op_cat (pv 0) (pe_lst (pa_cons (pv 1) pa_nil))))))
        pss_nil)
      (pss_cons (ps_asg (pe_slice sl_tup (pv 1) (po_some pe_int) po_none) (pg_tup rfl (pgs_cons (pg_name (i := 2) sc_with_piece.nd rfl (Or.inl rfl)) (pgs_cons (pg_name (i := 3) sc_with_piece.nd rfl (Or.inl rfl)) (pgs_cons (pg_name (i := 4) sc_with_piece.nd rfl (Or.inl rfl)) pgs_nil)))))
      (pss_cons (ps_while PassesOwn.never (pt_cmpR op_gt (pv 3) pe_int (nomark _))
        (pss_cons (ps_set (i := 5) sc_with_piece.nd rfl (Or.inl rfl) (pe_ifExp (pt_cmpR (op_neNil hr) (pv 0) (pe_lst pa_nil) (nomark _)) (pe_cG G_taken_by hr rfl passL (pa_cons (pe_ix ix_list (pv 0) (pe_un un_neg pe_int) (fun _ _ => rfl)) (pa_cons (pv 2) (pa_cons (pv 3) (pa_cons (pv 4) pa_nil))))) pe_int))
          (pss_cons (ps_if (pt_cmpR op_eq (pv 5) pe_int (nomark _))
            (pss_one (ps_ret (pe_op op_cat (pv 0) (pe_lst (pa_cons (pe_cG G_play hr rfl passL (pa_cons (pv 2) (pa_cons (pv 3) (pa_cons (pv 4) pa_nil)))) pa_nil)))))
            pss_nil)
          (pss_cons (ps_set (i := 6) sc_with_piece.nd rfl (Or.inl rfl) (pe_ix ix_list (pv 0) (pe_un un_neg pe_int) (fun _ _ => rfl)))
          (pss_cons (ps_set (i := 0) sc_with_piece.nd rfl (Or.inl rfl) (pe_op op_cat (pe_slice sl_list (pv 0) po_none (po_some (pe_un un_neg pe_int))) (pe_lst (pa_cons (pe_cG G_play hr rfl passL (pa_cons (pe_ix ix_tup (pv 6) pe_int (fun _ _ => rfl)) (pa_cons (pe_op op_add (pe_ix ix_tup (pv 6) pe_int (fun _ _ => rfl)) (pv 5)) (pa_cons (pe_ifExp (pt_cmpR op_eq (pe_ix ix_tup (pv 6) pe_int (fun _ _ => rfl)) pe_int (nomark _)) (pe_op op_sub (pv 2) (pe_ix ix_tup (pv 6) pe_int (fun _ _ => rfl))) (pe_ix ix_tup (pv 6) pe_int (fun _ _ => rfl))) pa_nil)))) pa_nil))))
          (pss_one (ps_par (i := 2) (j := 3) rfl sc_with_piece.nd rfl rfl (by decide) rfl rfl (pa_cons (pe_op op_add (pv 2) (pe_op op_mul (pv 5) (pv 4))) (pa_cons (pe_op op_sub (pv 3) (pv 5)) pa_nil)) (by rfl))))))))
      (pss_one (ps_ret (pv 0)))))), ?_⟩
    have hT : SqT K H r (pcV p) := SqT.of hp
    cases p with
    | no n =>
      have hn : 1 ≤ n := hpk
      refine ⟨_, rfl, _, _, _, _, rfl, rfl, hT, at0 rfl, rfl, _, rfl, ?_⟩
      rw [dec_nn]
      obtain ⟨rs, eL, hR⟩ := hL
      -- found != []
      refine ⟨_, rfl, Nat.zero_le _, fun e he => ⟨a, e, rs.map V.ref, rfl, rfl, Same.new he _ _ eL, upd_same, _, rfl, ?_⟩⟩
      have s1 : Same H (upd H e (.lst [])) := Same.new he
      have behind : ∀ H1, Same H H1 → TL pcV H1 a ps → (∀ p, ps.getLast? = some p → Apart p (.no n)) → ∀ b o, H1 b = none → (∃ H2, H2 = upd (upd H1 b (.lst [.ref r])) o (.lst (rs.map V.ref ++ [.ref r])) ∧ upd H1 b (.lst [.ref r]) o = none) → Q (.ref o) (upd (upd H1 b (.lst [.ref r])) o (.lst (rs.map V.ref ++ [.ref r]))) := by
        intro H1 sm _ hap b o hb ⟨_, _, ho⟩
        have s2 := (sm.up hb).up (o := .lst (rs.map V.ref ++ [.ref r])) ho
        refine q _ o (ps ++ [.no n]) s2 ⟨rs ++ [r], by rw [upd_same, List.map_append]; rfl, ?_⟩ (Can.snoc (q := .no n) hC hn True.intro hap) (by rw [dens_app, dens_one]) (by simp)
        exact paired_append (hR.keep (.of s2)) (.cons (s2 _ _ hp) .nil)
      rcases last_snoc ps with rfl | ⟨pi, pl, rfl⟩
      · cases hR
        refine ⟨_, rfl, _, rfl, Nat.le_add_left 1 _, fun b hb => ?_⟩
        refine ⟨a, b, [], _, rfl, rfl, ?_, upd_same, big_size (by simp), fun o ho => ?_⟩
        · exact (s1.up hb) _ _ eL
        · exact behind _ s1 ⟨[], s1 _ _ eL, .nil⟩ (fun p hp => by cases hp) b o hb ⟨_, rfl, ho⟩
      · obtain ⟨ri, rl, rfl, hRi, hRl⟩ := paired_snoc hR
        have en : (!((ri ++ [rl]).map V.ref).isEmpty) = true := by simp
        show if (!((ri ++ [rl]).map V.ref).isEmpty) = true then _ else _
        rw [en]
        have lastv : atI ((ri ++ [rl]).map V.ref) (-1) = some (.ref rl) := by
          rw [List.map_append]
          exact atI_last _ _
        refine ⟨_, rfl, _, rfl, a, _, _, _, rfl, rfl, SqL.of (s1 _ _ eL), lastv, rl, _, _, _, rfl, rfl, SqT.of (s1 _ _ hRl), at0 (head_eq pl), rfl, _, rfl, ?_⟩
        cases pl with
        | pl s l t =>
          rw [dec_pn]
          refine ⟨_, rfl, _, rfl, Nat.le_add_left 1 _, fun b hb => ?_⟩
          refine ⟨a, b, _, _, rfl, rfl, (s1.up hb) _ _ eL, upd_same, big_size (by simp at hz ⊢; have := hR.len; simp at this; omega), fun o ho => ?_⟩
          exact behind _ s1 ⟨_, s1 _ _ eL, hR.keep (.of s1)⟩ (fun p hp => by
            rw [List.getLast?_append] at hp
            have hp := Option.some.inj hp
            subst hp
            exact True.intro) b o hb ⟨_, rfl, ho⟩
        | no m =>
          rw [dec_nn]
          refine ⟨_, rfl, _, rfl, _, rfl, a, _, rfl, SqL.of (s1 _ _ eL), fun c hc => ?_⟩
          have s2 := s1.up (o := .lst (cutV ((ri ++ [rl]).map V.ref) none (some (-1)))) hc
          refine ⟨_, rfl, _, rfl, a, _, _, _, rfl, rfl, SqL.of (s2 _ _ eL), lastv, rl, _, _, _, rfl, rfl, SqT.of (s2 _ _ hRl), at1 rfl, _, rfl, r, _, _, _, rfl, rfl, SqT.of (s2 _ _ hp), at1 rfl, _, _, rfl, rfl, (by show 2 ≤ sizeLine; decide), fun d hd => ?_⟩
          have s3 := s2.up (o := .tup [.str "nothing", .int (m + n)]) hd
          refine ⟨Nat.le_add_left 1 _, fun b hb => ?_⟩
          have s4 := s3.up (o := .lst [.ref d]) hb
          have ec : (upd (upd (upd (upd H e (.lst [])) c (.lst (cutV ((ri ++ [rl]).map V.ref) none (some (-1))))) d (.tup [.str "nothing", .int (m + n)])) b (.lst [.ref d])) c = some (.lst (ri.map V.ref)) := by
            rw [List.map_append, show [rl].map V.ref = [V.ref rl] from rfl, cut_init] at hb hd ⊢
            rw [upd_ne (ne_of_none (by rw [upd_ne (ne_of_none upd_same hd)]; exact upd_same) hb), upd_ne (ne_of_none upd_same hd), upd_same]
          refine ⟨c, b, _, _, rfl, rfl, ec, upd_same, big_size (by simp at hz ⊢; have := hR.len; simp at this; omega), fun o ho => ?_⟩
          have s5 := s4.up (o := .lst (ri.map V.ref ++ [.ref d])) ho
          have od : d ≠ o := ne_of_none (by rw [upd_ne (ne_of_none upd_same hb)]; exact upd_same) ho
          refine q _ o (pi ++ [.no (m + n)]) s5 ⟨ri ++ [d], by rw [upd_same, List.map_append]; rfl, ?_⟩ ?_ ?_ (by simp)
          · refine paired_append (Tp.keep (f := pcV) hRi (.of s5)) (.cons ?_ .nil)
            show upd _ o _ d = some (.tup [.str "nothing", .int (m + n)])
            rw [upd_ne od, upd_ne (ne_of_none upd_same hb), upd_same]
          · have hm : 1 ≤ m := hC.ok (.no m) (by simp)
            exact hC.last (show 1 ≤ m + n by omega) True.intro (fun z hz => by cases z <;> exact hz)
          · have hm : 1 ≤ m := hC.ok (.no m) (by simp)
            rw [dens_app, dens_app, dens_one, dens_one, List.append_assoc]
            congr 1
            show List.replicate (m + n).toNat none = List.replicate m.toNat none ++ List.replicate n.toNat none
            rw [List.replicate_append_replicate]
            congr 1
            omega
    | pl s l t =>
      have hs : 0 ≤ s := hpk.1
      have hl : 1 ≤ l := hpk.2.1
      have ht : 1 ≤ t := hpk.2.2
      have hB : ((dens ps).length : Int) + l ≤ BIG := hB
      refine ⟨_, rfl, _, _, _, _, rfl, rfl, hT, at0 rfl, rfl, _, rfl, ?_⟩
      rw [dec_pn]
      -- start, length, step = piece[1:]
      refine ⟨_, rfl, 1, rfl, r, _, rfl, hT, (fun z => by have := z.1; simp [HT.sIx, pcV] at this), fun c hc => ?_⟩
      have s1 := Same.new (o := .tup (cutV (pcV (.pl s l t)) (some 1) none)) hc
      have ecut : cutV (pcV (.pl s l t)) (some 1) none = [.int s, .int l, .int t] := cut_tail _ _
      refine ⟨c, [.int s, .int l, .int t], rfl, SqT.of (by rw [← ecut]; exact upd_same), rfl, _, _, rfl, _, _, rfl, _, _, rfl, rfl, ?_⟩
      -- while length > 0
      refine while_by (fun σ H1 => ∃ (a' : Addr) (ps' : List Pc) (s' l' : Int) (v5 v6 : Option V), σ = [some (.ref a'), some (.ref r), some (.int s'), some (.int l'), some (.int t), v5, v6] ∧ Same H H1 ∧ TL pcV H1 a' ps' ∧ Can ps' ∧
          dens ps' ++ den (.pl s' l' t) = dens ps ++ den (.pl s l t) ∧ ps'.length ≤ ps.length ∧ 0 ≤ s' ∧ 0 ≤ l' ∧ l' ≤ l)
        (fun (σ : L2.St) (_ : Hp) => match σ[3]? with | some (some (V.int i)) => i.toNat | _ => 0)
        ⟨a, ps, s, l, none, none, rfl, s1, hL.keep (.of s1), hC, rfl, Nat.le_refl _, hs, by omega, Int.le_refl _⟩ ?_ ?_
      · rintro σ H1 ⟨a', ps', s', l', v5, v6, rfl, sm, ⟨rs, eL, hR⟩, hC', hden, hlen, hs', hl', hll⟩
        refine ⟨_, rfl, _, _, rfl, rfl, _, rfl, ?_⟩
        refine ite2 (fun hgt => ?_) (fun hgt => ?_)
        · have hgt : l' > 0 := of_decide_eq_true hgt
          -- taken = .. if found != [] else 0
          refine ⟨_, rfl, Nat.zero_le _, fun e he => ⟨a', e, rs.map V.ref, rfl, rfl, Same.new he _ _ eL, upd_same, _, rfl, ?_⟩⟩
          have sE : Same H1 (upd H1 e (.lst [])) := Same.new he
          have hsz : rs.length ≤ 1000000 := by rw [hR.len]; omega
          -- nothing is taken: found + [play(..)]
          have zero : ∀ H2, Same H1 H2 → (∀ p, ps'.getLast? = some p → Apart p (ply s' l' t)) →
              ∀ b, H2 b = none → ∀ d, upd H2 b (.tup (pcV (ply s' l' t))) d = none → ∀ o, upd (upd H2 b (.tup (pcV (ply s' l' t)))) d (.lst [.ref b]) o = none →
              Q (.ref o) (upd (upd (upd H2 b (.tup (pcV (ply s' l' t)))) d (.lst [.ref b])) o (.lst (rs.map V.ref ++ [.ref b]))) := by
            intro H2 sm2 hap b hb d hd o ho
            have s5 := ((sm2.up hb).up hd).up (o := .lst (rs.map V.ref ++ [.ref b])) ho
            have k := ply_ok (s := s') (l := l') (t := t) hs' (by omega) ht
            refine q _ o (ps' ++ [ply s' l' t]) (sm.trans s5) ⟨rs ++ [b], by rw [upd_same, List.map_append]; rfl, ?_⟩ (hC'.snoc k.1 k.2 hap) (by rw [dens_app, dens_one, den_ply, hden]) (by simp; omega)
            refine paired_append (hR.keep (.of s5)) (.cons ?_ .nil)
            show upd _ o _ b = some (.tup (pcV (ply s' l' t)))
            have e1 : upd (upd H2 b (.tup (pcV (ply s' l' t)))) d (.lst [.ref b]) b = some (.tup (pcV (ply s' l' t))) := by
              rw [upd_ne (ne_of_none upd_same hd)]
              exact upd_same
            rw [upd_ne (ne_of_none e1 ho)]
            exact e1
          rcases last_snoc ps' with rfl | ⟨pi, pl, rfl⟩
          · cases hR
            refine ⟨_, rfl, rfl, _, rfl, ?_⟩
            refine ⟨_, rfl, _, rfl, _, rfl, _, rfl, s', l', t, rfl, fun b hb => ⟨Nat.le_add_left 1 _, fun d hd => ?_⟩⟩
            have s3 := (sE.up hb).up (o := .lst [.ref b]) hd
            refine ⟨a', d, [], _, rfl, rfl, s3 _ _ eL, upd_same, big_size (by simp), fun o ho => ?_⟩
            exact zero _ sE (fun p hp => by cases hp) b hb d hd o ho
          · obtain ⟨ri, rl, rfl, hRi, hRl⟩ := paired_snoc hR
            have en : (!((ri ++ [rl]).map V.ref).isEmpty) = true := by simp
            show if (!((ri ++ [rl]).map V.ref).isEmpty) = true then _ else _
            rw [en]
            have lastv : atI ((ri ++ [rl]).map V.ref) (-1) = some (.ref rl) := by
              rw [List.map_append]
              exact atI_last _ _
            have okl := hC'.all pl (by simp)
            have hlenI : plen pl ≤ BIG := by
              have h1 := den_lenI okl.1
              have h2 : ((dens (pi ++ [pl])).length : Int) + (den (.pl s' l' t)).length = (dens ps).length + (den (.pl s l t)).length := by
                have z := congrArg List.length hden
                rw [List.length_append, List.length_append] at z
                omega
              have h3 : ((den (.pl s l t)).length : Int) = l := den_lenI hpk
              have h4 := plen_le (ps := pi) (p := pl)
              omega
            refine ⟨_, rfl, _, rfl, a', _, _, _, rfl, rfl, SqL.of (sE _ _ eL), lastv, _, rfl, _, rfl, _, rfl, rl, pl, s', l', t, rfl, sE _ _ hRl, by have := okl.1.len; omega, hlenI, ?_⟩
            refine ⟨_, rfl, rfl, _, rfl, ?_⟩
            refine ite2 (fun hz0 => ?_) (fun hz0 => ?_)
            · have hz0 : takenBy pl s' l' t = 0 := V.int.inj (of_decide_eq_true hz0)
              refine ⟨_, rfl, _, rfl, _, rfl, _, rfl, s', l', t, rfl, fun b hb => ⟨Nat.le_add_left 1 _, fun d hd => ?_⟩⟩
              have s3 := (sE.up hb).up (o := .lst [.ref b]) hd
              refine ⟨a', d, _, _, rfl, rfl, s3 _ _ eL, upd_same, big_size (by simp at hsz ⊢; omega), fun o ho => ?_⟩
              exact zero _ sE (fun p hp => by
                rw [List.getLast?_append] at hp
                have hp := Option.some.inj hp
                subst hp
                exact taken_zero okl.1 (by omega) hz0) b hb d hd o ho
            · have hz0 : takenBy pl s' l' t ≠ 0 := fun x => hz0 (decide_eq_true (by rw [x]))
              obtain ⟨s0, l0, t0, rfl, n1, n2, k1, k2, k3, k4⟩ := taken_some okl.1 okl.2 (show 1 ≤ l' by omega) ht hz0
              have hlen0 : l0 ≤ BIG := hlenI
              -- last = found[-1]
              refine ⟨_, rfl, _, rfl, a', _, _, _, rfl, rfl, SqL.of (sE _ _ eL), lastv, ?_⟩
              -- found[:-1]
              refine ⟨_, rfl, _, rfl, _, rfl, a', _, rfl, SqL.of (sE _ _ eL), fun c2 hc2 => ?_⟩
              have s2 := sE.up (o := .lst (cutV ((ri ++ [rl]).map V.ref) none (some (-1)))) hc2
              have hTl := SqT.of (K := K) (s2 _ _ hRl)
              -- play(last[1], last[2] + taken, ..)
              have fin : ∀ st, st = (if l0 = 1 then s' - s0 else t0) → ∀ b, upd (upd H1 e (.lst [])) c2 (.lst (cutV ((ri ++ [rl]).map V.ref) none (some (-1)))) b = none →
                  (Nat.succ 0 ≤ sizeLine ∧ ∀ d, upd (upd (upd H1 e (.lst [])) c2 (.lst (cutV ((ri ++ [rl]).map V.ref) none (some (-1))))) b (.tup (pcV (ply s0 (l0 + takenBy (.pl s0 l0 t0) s' l' t) st))) d = none →
                    ∃ x1 x2 y1 y2, V.ref c2 = .ref x1 ∧ V.ref d = .ref x2 ∧
                      upd (upd (upd (upd H1 e (.lst [])) c2 (.lst (cutV ((ri ++ [rl]).map V.ref) none (some (-1))))) b (.tup (pcV (ply s0 (l0 + takenBy (.pl s0 l0 t0) s' l' t) st)))) d (.lst [.ref b]) x1 = some (.lst y1) ∧
                      upd (upd (upd (upd H1 e (.lst [])) c2 (.lst (cutV ((ri ++ [rl]).map V.ref) none (some (-1))))) b (.tup (pcV (ply s0 (l0 + takenBy (.pl s0 l0 t0) s' l' t) st)))) d (.lst [.ref b]) x2 = some (.lst y2) ∧
                      y1.length + y2.length ≤ sizeLine ∧ y1 = ri.map V.ref ∧ y2 = [.ref b]) := by
                intro st est b hb
                refine ⟨Nat.le_add_left 1 _, fun d hd => ⟨c2, d, _, _, rfl, rfl, ?_, upd_same, ?_, rfl, rfl⟩⟩
                · rw [List.map_append, show [rl].map V.ref = [V.ref rl] from rfl, cut_init] at hb hd ⊢
                  rw [upd_ne (ne_of_none (by rw [upd_ne (ne_of_none upd_same hb)]; exact upd_same) hd), upd_ne (ne_of_none upd_same hb), upd_same]
                · exact big_size (by simp at hsz ⊢; omega)
              have go : ∀ st, st = (if l0 = 1 then s' - s0 else t0) → ∀ b, upd (upd H1 e (.lst [])) c2 (.lst (cutV ((ri ++ [rl]).map V.ref) none (some (-1)))) b = none →
                  ∀ d, upd (upd (upd H1 e (.lst [])) c2 (.lst (cutV ((ri ++ [rl]).map V.ref) none (some (-1))))) b (.tup (pcV (ply s0 (l0 + takenBy (.pl s0 l0 t0) s' l' t) st))) d = none →
                  ∀ o, upd (upd (upd (upd H1 e (.lst [])) c2 (.lst (cutV ((ri ++ [rl]).map V.ref) none (some (-1))))) b (.tup (pcV (ply s0 (l0 + takenBy (.pl s0 l0 t0) s' l' t) st)))) d (.lst [.ref b]) o = none →
                  TL pcV (upd (upd (upd (upd (upd H1 e (.lst [])) c2 (.lst (cutV ((ri ++ [rl]).map V.ref) none (some (-1))))) b (.tup (pcV (ply s0 (l0 + takenBy (.pl s0 l0 t0) s' l' t) st)))) d (.lst [.ref b])) o (.lst (ri.map V.ref ++ [.ref b]))) o (pi ++ [ply s0 (l0 + takenBy (.pl s0 l0 t0) s' l' t) (if l0 = 1 then s' - s0 else t0)]) ∧
                  Same H1 (upd (upd (upd (upd (upd H1 e (.lst [])) c2 (.lst (cutV ((ri ++ [rl]).map V.ref) none (some (-1))))) b (.tup (pcV (ply s0 (l0 + takenBy (.pl s0 l0 t0) s' l' t) st)))) d (.lst [.ref b])) o (.lst (ri.map V.ref ++ [.ref b]))) := by
                intro st est b hb d hd o ho
                have s5 := ((s2.up hb).up hd).up (o := .lst (ri.map V.ref ++ [.ref b])) ho
                refine ⟨⟨ri ++ [b], by rw [upd_same, List.map_append]; rfl, ?_⟩, s5⟩
                refine paired_append (Tp.keep (f := pcV) hRi (.of s5)) (.cons ?_ .nil)
                rw [← est]
                have e1 := (Same.new (o := .lst [.ref b]) hd) b _ upd_same
                rw [upd_ne (ne_of_none e1 ho)]
                exact e1
              have close : ∀ st, st = (if l0 = 1 then s' - s0 else t0) → ∀ b, upd (upd H1 e (.lst [])) c2 (.lst (cutV ((ri ++ [rl]).map V.ref) none (some (-1)))) b = none →
                  ∀ d, upd (upd (upd H1 e (.lst [])) c2 (.lst (cutV ((ri ++ [rl]).map V.ref) none (some (-1))))) b (.tup (pcV (ply s0 (l0 + takenBy (.pl s0 l0 t0) s' l' t) st))) d = none →
                  ∀ o, upd (upd (upd (upd H1 e (.lst [])) c2 (.lst (cutV ((ri ++ [rl]).map V.ref) none (some (-1))))) b (.tup (pcV (ply s0 (l0 + takenBy (.pl s0 l0 t0) s' l' t) st)))) d (.lst [.ref b]) o = none → _ := fun st est b hb d hd o ho => go st est b hb d hd o ho
              have tail : ∀ (o : Addr) (H9 : Hp), TL pcV H9 o (pi ++ [ply s0 (l0 + takenBy (.pl s0 l0 t0) s' l' t) (if l0 = 1 then s' - s0 else t0)]) → Same H1 H9 →
                  ∃ (a'' : Addr) (ps'' : List Pc) (s'' l'' : Int) (v5 v6 : Option V), ([some (.ref o), some (.ref r), some (.int (s' + takenBy (.pl s0 l0 t0) s' l' t * t)), some (.int (l' - takenBy (.pl s0 l0 t0) s' l' t)), some (.int t), some (.int (takenBy (.pl s0 l0 t0) s' l' t)), some (.ref rl)] : L2.St) = [some (.ref a''), some (.ref r), some (.int s''), some (.int l''), some (.int t), v5, v6] ∧ Same H H9 ∧ TL pcV H9 a'' ps'' ∧ Can ps'' ∧
                    dens ps'' ++ den (.pl s'' l'' t) = dens ps ++ den (.pl s l t) ∧ ps''.length ≤ ps.length ∧ 0 ≤ s'' ∧ 0 ≤ l'' ∧ l'' ≤ l := by
                intro o H9 h9 sm9
                have hmul : 0 ≤ takenBy (.pl s0 l0 t0) s' l' t * t := Int.mul_nonneg (by omega) (by omega)
                refine ⟨o, _, _, _, _, _, rfl, sm.trans sm9, h9, hC'.last k1 k2 k3, ?_, by simp at hlen ⊢; exact hlen, by omega, by omega, by omega⟩
                rw [← hden, dens_app, dens_app, dens_one, dens_one, List.append_assoc, List.append_assoc, k4]
              refine ⟨_, rfl, rl, _, _, _, rfl, rfl, hTl, at1 rfl, _, rfl, rl, _, _, _, rfl, rfl, hTl, at2 rfl, _, rfl, _, _, rfl, rfl, _, rfl, rl, _, _, _, rfl, rfl, hTl, at2 rfl, rfl, _, rfl, ?_⟩
              have last5 : ∀ (o : Addr) (H9 : Hp), TL pcV H9 o (pi ++ [ply s0 (l0 + takenBy (.pl s0 l0 t0) s' l' t) (if l0 = 1 then s' - s0 else t0)]) → Same H1 H9 → _ := tail
              refine ite2 (fun h1 => ?_) (fun h1 => ?_)
              · have h1 : l0 = 1 := V.int.inj (of_decide_eq_true h1)
                have est : s' - s0 = (if l0 = 1 then s' - s0 else t0) := by rw [if_pos h1]
                refine ⟨_, rfl, _, rfl, rl, _, _, _, rfl, rfl, hTl, at1 rfl, _, _, rfl, rfl, s0, _, _, rfl, fun b hb => ?_⟩
                obtain ⟨f1, f2⟩ := fin _ est b hb
                refine ⟨f1, fun d hd => ?_⟩
                obtain ⟨x1, x2, y1, y2, g1, g2, g3, g4, g5, rfl, rfl⟩ := f2 d hd
                refine ⟨x1, x2, _, _, g1, g2, g3, g4, g5, fun o ho => ?_⟩
                obtain ⟨t1, t2⟩ := go _ est b hb d hd o ho
                refine ⟨_, rfl, _, rfl, _, rfl, _, _, rfl, rfl, .inl ⟨by omega, by have : BIG = 1099511627776 := rfl; omega⟩, _, _, rfl, rfl, _, rfl, _, rfl, _, _, rfl, rfl, _, _, rfl, ?_⟩
                refine ⟨tail o _ t1 t2, ?_⟩
                show (l' - takenBy (.pl s0 l0 t0) s' l' t).toNat < l'.toNat
                omega
              · have h1 : ¬ l0 = 1 := fun x => h1 (decide_eq_true (by rw [x]))
                have est : t0 = (if l0 = 1 then s' - s0 else t0) := by rw [if_neg h1]
                refine ⟨_, rfl, rl, _, _, _, rfl, rfl, hTl, at3 rfl, s0, _, _, rfl, fun b hb => ?_⟩
                obtain ⟨f1, f2⟩ := fin _ est b hb
                refine ⟨f1, fun d hd => ?_⟩
                obtain ⟨x1, x2, y1, y2, g1, g2, g3, g4, g5, rfl, rfl⟩ := f2 d hd
                refine ⟨x1, x2, _, _, g1, g2, g3, g4, g5, fun o ho => ?_⟩
                obtain ⟨t1, t2⟩ := go _ est b hb d hd o ho
                refine ⟨_, rfl, _, rfl, _, rfl, _, _, rfl, rfl, .inl ⟨by omega, by have : BIG = 1099511627776 := rfl; omega⟩, _, _, rfl, rfl, _, rfl, _, rfl, _, _, rfl, rfl, _, _, rfl, ?_⟩
                refine ⟨tail o _ t1 t2, ?_⟩
                show (l' - takenBy (.pl s0 l0 t0) s' l' t).toNat < l'.toNat
                omega
        · -- the end
          have hgt : l' ≤ 0 := by
            have : ¬ l' > 0 := fun x => hgt (decide_eq_true x)
            omega
          rw [den_zero _ _ _ hgt, List.append_nil] at hden
          exact ⟨_, rfl, q H1 a' ps' sm ⟨rs, eL, hR⟩ hC' hden (by omega)⟩
      · rintro σ H1 Q1 Q2 h ⟨v, h1, i, j, h2, h3, b, h4, h5⟩
        exact ⟨v, h1, i, j, h2, h3, b, h4, h _ _ h5⟩
end
end K24

/-! part D5 -/
set_option Elab.async false
set_option linter.all false
set_option maxRecDepth 100000
set_option maxHeartbeats 4000000
namespace K24
open PySem PySem.Spec PyProof.Rows L2
theorem take_more {α : Type} : ∀ {l : List α} {i : Nat} {x : α}, l[i]? = some x → l.take (i + 1) = l.take i ++ [x]
  | [], i, x, h => by simp at h
  | a :: l, 0, x, h => by
    have e : a = x := Option.some.inj h
    subst e
    rfl
  | a :: l, i + 1, x, h => by
    have ih := take_more (l := l) (i := i) (x := x) h
    show a :: l.take (i + 1) = a :: l.take i ++ [x]
    rw [ih]
    rfl
theorem take_len {ps : List Pc} (i : Nat) : ((dens (ps.take i)).length : Int) ≤ (dens ps).length := by
  have := List.take_append_drop i ps
  have h : (dens ps).length = (dens (ps.take i)).length + (dens (ps.drop i)).length := by
    rw [← List.length_append, ← dens_app, this]
  omega
/-- the i-th item of a list of tuples -/
theorem tl_get {α : Type} {f : α → List V} {H : Hp} {rs : List Addr} {xs : List α} {i : Nat} {y : V} (hR : Tp f H rs xs) (hi : (rs.map V.ref)[i]? = some y) : ∃ r x, y = .ref r ∧ rs[i]? = some r ∧ xs[i]? = some x ∧ H r = some (.tup (f x)) := by
  obtain ⟨r, h1, rfl⟩ := map_get hi
  obtain ⟨x, h2, h3⟩ := paired_get hR h1
  exact ⟨r, x, rfl, h1, h2, h3⟩
def spSamp (K : PySem.W.Frag) : Sp := fun vs H Q _ => ∃ (a : Addr) (ps : List Pc) (x y f : Nat), vs = [.ref a, .int x, .int y, .int f] ∧ TT pcV H a ps ∧ (∀ p ∈ ps, Pok p) ∧ ps.length ≤ 1000000 ∧ ((dens ps).length : Int) ≤ BIG ∧ (x : Int) ≤ BIG ∧ (y : Int) ≤ BIG ∧ 1 ≤ f ∧ f ≤ 1000000 ∧
  ∀ H' a' qs, Same H H' → TL pcV H' a' qs → (∀ p ∈ qs, Pok p) → dens qs = smp (dens ps) x y f → qs.length ≤ ps.length → Q (.ref a') H'
section
variable {P : Program} {w : World} {K : PySem.W.Frag} {mg : Str → Option Value} {base : Heap}
theorem sc_as_far_as_they_can : FnScope ["pieces", "found", "piece"] ["pieces"] (defScope (top 20)) := ⟨rfl, rfl, rfl, by decide +kernel, rfl, by decide +kernel, by decide +kernel⟩
theorem ok_far (D : Has K (dN "as_far_as_they_can" 20)) (g : mg "as_far_as_they_can" = some (.ref (He.fAd K ("as_far_as_they_can", none)))) (G_with_piece : OkG P w K mg base 2 "with_piece" ["found", "piece"] spWith) :
    OkG P w K mg base 3 "as_far_as_they_can" ["pieces"] spFar := by
  refine okG D g sc_as_far_as_they_can (fun _ _ _ _ _ _ us hl => match us, hl with | [_], _ => rfl) (fun vs H Q E h => ?_) (fun f cdv A outer s H vs Q E hr h => ?_)
  · obtain ⟨a, ps, rfl, _⟩ := h
    rfl
  · obtain ⟨a, ps, rfl, ⟨rs, eL, hR⟩, ok, hz, hB, q⟩ := h
    refine ⟨_, PSs.nox (pss_cons (ps_set (i := 1) sc_as_far_as_they_can.nd rfl (Or.inl rfl) (pe_lst pa_nil))
      (pss_cons (ps_for PassesOwn.never rfl (pi_list (pv 0)) (pg_name (i := 2) sc_as_far_as_they_can.nd rfl (Or.inl rfl))
        (pss_one (ps_set (i := 1) sc_as_far_as_they_can.nd rfl (Or.inl rfl) (pe_cG G_with_piece hr rfl passL (pa_cons (pv 1) (pa_cons (pv 2) pa_nil))))))
      (pss_one (ps_ret (pv 1))))), ?_⟩
    refine ⟨Nat.zero_le _, fun o ho => ?_⟩
    have s1 : Same H (upd H o (.lst [])) := Same.new ho
    refine ⟨_, rfl, a, rfl, ⟨_, SqL.of (s1 _ _ eL)⟩, for_list (K := K) (a := a) (xs := rs.map V.ref) (fun i σ H1 => ∃ (b : Addr) (qs : List Pc) (v : Option V), σ = [some (.ref a), some (.ref b), v] ∧ Same H H1 ∧ TL pcV H1 b qs ∧ Can qs ∧ dens qs = dens (ps.take i) ∧ qs.length ≤ i)
      ⟨o, [], none, rfl, s1, ⟨[], upd_same, .nil⟩, True.intro, rfl, Nat.le_refl _⟩ (fun i σ H1 _ ⟨_, _, _, _, sm, _⟩ => SqL.of (sm _ _ eL)) ?_ ?_⟩
    · rintro i y σ H1 hi ⟨b, qs, v, rfl, sm, hL, hC, hd, hl⟩
      obtain ⟨r, p, rfl, h1, h2, h3⟩ := tl_get hR hi
      have hmem : p ∈ ps := List.mem_of_getElem? h2
      have hi2 : i < ps.length := (List.getElem?_eq_some_iff.mp h2).1
      have e1 : dens (ps.take (i + 1)) = dens (ps.take i) ++ den p := by rw [take_more h2, dens_app, dens_one]
      have l1 := take_len (ps := ps) (i + 1)
      have l2 := den_lenI (ok p hmem)
      rw [e1, List.length_append] at l1
      refine ⟨_, rfl, _, rfl, b, r, qs, p, rfl, hL, sm _ _ h3, hC, ok p hmem, by omega, by rw [hd]; omega, fun H2 b' qs' s2 hL' hC' hd' hl' => ?_⟩
      exact ⟨b', qs', _, rfl, sm.trans s2, hL', hC', by rw [hd', hd, e1], by omega⟩
    · rintro σ H1 ⟨b, qs, v, rfl, sm, hL, hC, hd, hl⟩
      rw [List.length_map] at hd hl
      rw [List.take_of_length_le (by rw [hR.len]; omega)] at hd
      have := hR.len
      exact ⟨_, rfl, q H1 b qs sm hL hC hd (by omega)⟩
theorem sc_sampled : FnScope ["pieces", "first", "last", "factor", "found", "begin", "piece", "end", "skipped", "moment", "many"] ["pieces", "first", "last", "factor"] (defScope (top 21)) := ⟨rfl, rfl, rfl, by decide +kernel, rfl, by decide +kernel, by decide +kernel⟩
theorem ok_sampled (T : Tx K mg) (D : Has K (dN "sampled" 21)) (g : mg "sampled" = some (.ref (He.fAd K ("sampled", none)))) (G_length_of : OkG P w K mg base 1 "length_of" ["piece"] spLen)
    (G_play : OkG P w K mg base 1 "play" ["start", "length", "step"] spPlay) : OkG P w K mg base 2 "sampled" ["pieces", "first", "last", "factor"] (spSamp K) := by
  refine okG D g sc_sampled (fun _ _ _ _ _ _ us hl => match us, hl with | [_, _, _, _], _ => rfl) (fun vs H Q E h => ?_) (fun fa cdv A outer s H vs Q E hr h => ?_)
  · obtain ⟨a, ps, x, y, f, rfl, _⟩ := h
    rfl
  · obtain ⟨a, ps, x, y, f, rfl, ⟨rs, eT, hR⟩, ok, hz, hB, hx, hy, hf1, hf2, q⟩ := h
    refine ⟨_, PSs.nox (pss_cons (ps_par (i := 4) (j := 5) rfl sc_sampled.nd rfl rfl (by decide) rfl rfl (pa_cons (pe_lst pa_nil) (pa_cons pe_int pa_nil)) (by rfl))
      (pss_cons (ps_for PassesOwn.never rfl (pi_tup (pv 0)) (pg_name (i := 6) sc_sampled.nd rfl (Or.inl rfl))
        (pss_cons (ps_set (i := 7) sc_sampled.nd rfl (Or.inl rfl) (pe_op op_add (pv 5) (pe_cG G_length_of (hr.mono (by decide)) rfl passL (pa_cons (pv 6) pa_nil))))
          (pss_cons (ps_set (i := 8) sc_sampled.nd rfl (Or.inl rfl) (pe_un un_neg (pe_op op_fdivN (pe_un un_neg (pe_callB (call_max2 rfl) (by rfl) T.max (by decide +kernel) (pa_cons (pe_op op_sub (pv 5) (pv 1)) (pa_cons pe_int pa_nil)))) (pv 3))))
          (pss_cons (ps_set (i := 9) sc_sampled.nd rfl (Or.inl rfl) (pe_op op_add (pv 1) (pe_op op_mul (pv 8) (pv 3))))
          (pss_cons (ps_set (i := 10) sc_sampled.nd rfl (Or.inl rfl) (pe_un un_neg (pe_op op_fdivN (pe_un un_neg (pe_op op_sub (pe_callB (call_min2 rfl) (by rfl) T.min (by decide +kernel) (pa_cons (pv 7) (pa_cons (pv 2) pa_nil))) (pv 9))) (pv 3))))
          (pss_cons (ps_if (PW.pt (pw_and (pt_cmpR op_gt (pv 10) pe_int (nomark _)) (pw_and1 (pt_cmpR op_eq (pe_ix ix_tup (pv 6) pe_int (fun _ _ => rfl)) pe_str (nomark _)))))
            (pss_one (ps_expr (pe_bm PySem.F.plainAttrs_list PySem.F.slot_list_append PySem.F.type_list_append mt_append (pv 4) (pa_cons (pe_tup (pa_cons pe_str (pa_cons (pv 10) pa_nil))) pa_nil))))
            (pss_one (ps_if (pt_cmpR op_gt (pv 10) pe_int (nomark _))
                (pss_one (ps_expr (pe_bm PySem.F.plainAttrs_list PySem.F.slot_list_append PySem.F.type_list_append mt_append (pv 4) (pa_cons (pe_cG G_play (hr.mono (by decide)) rfl passL (pa_cons (pe_op op_add (pe_ix ix_tup (pv 6) pe_int (fun _ _ => rfl)) (pe_op op_mul (pe_ix ix_tup (pv 6) pe_int (fun _ _ => rfl)) (pe_op op_sub (pv 9) (pv 5)))) (pa_cons (pv 10) (pa_cons (pe_op op_mul (pe_ix ix_tup (pv 6) pe_int (fun _ _ => rfl)) (pv 3)) pa_nil)))) pa_nil))))
                pss_nil)))
          (pss_one (ps_set (i := 5) sc_sampled.nd rfl (Or.inl rfl) (pv 7)))))))))
      (pss_one (ps_ret (pv 4))))), ?_⟩
    refine ⟨Nat.zero_le _, fun o ho => ⟨_, _, rfl, ?_⟩⟩
    have s1 : Same H (upd H o (.lst [])) := Same.new ho
    have divOk : CDivN 0 (f : Int) := ⟨by omega, by omega⟩
    have mulOk : ∀ i : Int, CMul i (f : Int) := fun i => .inr ⟨by omega, by omega⟩
    refine ⟨_, rfl, a, rfl, ⟨_, SqT.of (s1 _ _ eT)⟩, for_tup (K := K) (a := a) (xs := rs.map V.ref) (fun i σ H1 => ∃ (os : List Addr) (qs : List Pc) (v6 v7 v8 v9 v10 : Option V), σ = [some (.ref a), some (.int x), some (.int y), some (.int f), some (.ref o), some (.int ((dens (ps.take i)).length : Nat)), v6, v7, v8, v9, v10] ∧
        Same H H1 ∧ H1 o = some (.lst (os.map V.ref)) ∧ Tp pcV H1 os qs ∧ (∀ p ∈ qs, Pok p) ∧ dens qs = smp (dens (ps.take i)) x y f ∧ qs.length ≤ i)
      ⟨[], [], none, none, none, none, none, rfl, s1, upd_same, .nil, (fun _ h => by cases h), ?_, Nat.le_refl _⟩ (fun i σ H1 _ ⟨_, _, _, _, _, _, _, _, sm, _⟩ => SqT.of (sm _ _ eT)) ?_ ?_⟩
    · have e : (smp (dens (ps.take 0)) x y f).length = 0 := by
        rw [smp_len]
        show cdiv (min y 0 - x) f = 0
        exact Nat.le_zero.mp ((cdiv_le hf1).mpr (by omega))
      rw [List.eq_nil_of_length_eq_zero e]
      rfl
    · rintro i z σ H1 hi ⟨os, qs, v6, v7, v8, v9, v10, rfl, sm, eo, hO, okq, hd, hl⟩
      obtain ⟨r, p, rfl, h1, h2, h3⟩ := tl_get hR hi
      have hmem : p ∈ ps := List.mem_of_getElem? h2
      have hi2 : i < ps.length := (List.getElem?_eq_some_iff.mp h2).1
      have e1 : dens (ps.take (i + 1)) = dens (ps.take i) ++ den p := by rw [take_more h2, dens_app, dens_one]
      have l1 := take_len (ps := ps) (i + 1)
      have l2 := den_lenI (ok p hmem)
      have l3 := (ok p hmem).len
      have eb : (((dens (ps.take (i + 1))).length : Nat) : Int) = ((dens (ps.take i)).length : Nat) + plen p := by
        rw [e1, List.length_append]; omega
      have hsz : os.length ≤ 1000000 := by rw [hO.len]; omega
      have hT : SqT K H1 r (pcV p) := SqT.of (sm _ _ h3)
      -- end, skipped, moment, many
      refine ⟨_, rfl, _, rfl, r, p, rfl, sm _ _ h3, _, _, rfl, rfl, ?_⟩
      refine ⟨_, rfl, _, rfl, _, _, rfl, rfl, _, _, rfl, _, rfl, _, rfl, _, _, rfl, rfl, divOk, _, rfl, ?_⟩
      refine ⟨_, rfl, _, rfl, _, rfl, _, _, rfl, rfl, mulOk _, _, _, rfl, rfl, ?_⟩
      refine ⟨_, rfl, _, rfl, _, _, rfl, _, rfl, _, _, rfl, rfl, _, rfl, _, rfl, _, _, rfl, rfl, divOk, _, rfl, ?_⟩
      obtain ⟨sk, esk⟩ : ∃ sk : Int, sk = -((-(if 0 > ((dens (ps.take i)).length : Int) - x then 0 else ((dens (ps.take i)).length : Int) - x)).fdiv f) := ⟨_, rfl⟩
      obtain ⟨mo, emo⟩ : ∃ mo : Int, mo = x + sk * f := ⟨_, rfl⟩
      obtain ⟨many, emany⟩ : ∃ many : Int, many = -((-((if (y : Int) < ((dens (ps.take i)).length : Int) + plen p then (y : Int) else ((dens (ps.take i)).length : Int) + plen p) - mo)).fdiv f) := ⟨_, rfl⟩
      have step := samp_step (L := dens (ps.take i)) (p := p) (a := x) (b := y) (ok p hmem) hf1 esk emo emany
      rw [← e1] at step
      dsimp only
      rw [← esk, ← emo, ← emany]
      refine ⟨_, rfl, _, _, rfl, rfl, _, rfl, ?_⟩
      by_cases hm : many > 0
      · rw [decide_eq_true hm]
        rw [if_pos hm] at step
        obtain ⟨d0, d1, okn, est⟩ := step
        refine ⟨_, rfl, _, _, _, _, rfl, rfl, hT, at0 (head_eq p), rfl, _, rfl, ?_⟩
        have fin : ∀ (H2 : Hp) (b : Addr) (np : Pc), Same H1 H2 → H2 b = some (.tup (pcV np)) → np = newPc p (mo - ((dens (ps.take i)).length : Nat)) many f → 
            ∃ (os' : List Addr) (qs' : List Pc) (v6 v7 v8 v9 v10 : Option V), ([some (.ref a), some (.int x), some (.int y), some (.int f), some (.ref o), some (.int (((dens (ps.take i)).length : Nat) + plen p)), some (.ref r), some (.int (((dens (ps.take i)).length : Nat) + plen p)), some (.int sk), some (.int mo), some (.int many)] : L2.St) = [some (.ref a), some (.int x), some (.int y), some (.int f), some (.ref o), some (.int ((dens (ps.take (i + 1))).length : Nat)), v6, v7, v8, v9, v10] ∧
              Same H (upd H2 o (.lst (os.map V.ref ++ [.ref b]))) ∧ (upd H2 o (.lst (os.map V.ref ++ [.ref b]))) o = some (.lst (os'.map V.ref)) ∧ Tp pcV (upd H2 o (.lst (os.map V.ref ++ [.ref b]))) os' qs' ∧ (∀ p ∈ qs', Pok p) ∧ dens qs' = smp (dens (ps.take (i + 1))) x y f ∧ qs'.length ≤ i + 1 := by
          intro H2 b np s2 eb2 enp
          have so : SameF H2 (upd H2 o (.lst (os.map V.ref ++ [.ref b]))) ∨ True := .inr True.intro
          have kt : ∀ {c : Addr} {xs : List V}, H2 c = some (.tup xs) → upd H2 o (.lst (os.map V.ref ++ [.ref b])) c = some (.tup xs) := fun {c xs} e => by
            have : c ≠ o := ne_of e (s2 _ _ eo) (by intro z; cases z)
            rw [upd_ne this]
            exact e
          refine ⟨os ++ [b], qs ++ [np], _, _, _, _, _, by rw [eb], fun c u e => ?_, by rw [upd_same, List.map_append]; rfl, ?_, ?_, ?_, by simp; omega⟩
          · rw [upd_ne (ne_of_none e ho)]
            exact s2 _ _ (sm _ _ e)
          · exact paired_append (Paired.mapP hO fun c u e => kt (s2 _ _ e)) (.cons (kt eb2) .nil)
          · intro u hu
            rcases List.mem_append.mp hu with hu | hu
            · exact okq u hu
            · rw [List.mem_singleton.mp hu, enp]
              exact okn
          · rw [dens_app, dens_one, hd, est, enp]
        cases p with
        | no n =>
          rw [dec_nn]
          refine ⟨_, rfl, .inl ⟨rfl, _, SqL.of eo⟩, _, rfl, (by show 2 ≤ sizeLine; decide), fun b hb => ?_⟩
          have s2 : Same H1 (upd H1 b (.tup [.str "nothing", .int many])) := Same.new hb
          refine ⟨o, os.map V.ref, .ref b, rfl, rfl, s2 _ _ eo, by rw [List.length_map, sizeLine_eq]; omega, ?_⟩
          exact ⟨_, rfl, fin _ b (.no many) s2 upd_same rfl⟩
        | pl s l t =>
          rw [dec_pn]
          refine ⟨_, rfl, _, _, rfl, rfl, _, rfl, ?_⟩
          rw [decide_eq_true hm]
          refine ⟨_, rfl, .inl ⟨rfl, _, SqL.of eo⟩, ?_⟩
          have hl2 : mo - ((dens (ps.take i)).length : Nat) ≤ l := d1
          have hl4 : l ≤ BIG := by
            have : plen (.pl s l t) = l := rfl
            omega
          refine ⟨_, rfl, r, _, _, _, rfl, rfl, hT, at1 rfl, _, rfl, r, _, _, _, rfl, rfl, hT, at3 rfl, _, rfl, _, rfl, _, _, rfl, rfl, _, _, rfl, rfl, .inr ⟨by omega, by have : BIG = 1099511627776 := rfl; omega⟩, _, _, rfl, rfl, _, rfl, _, rfl, r, _, _, _, rfl, rfl, hT, at3 rfl, _, rfl, _, _, rfl, rfl, mulOk _, _, _, _, rfl, fun b hb => ?_⟩
          have s2 : Same H1 (upd H1 b (.tup (pcV (ply (s + t * (mo - ((dens (ps.take i)).length : Nat))) many (t * f))))) := Same.new hb
          refine ⟨o, os.map V.ref, .ref b, rfl, rfl, s2 _ _ eo, by rw [List.length_map, sizeLine_eq]; omega, ?_⟩
          exact ⟨_, rfl, fin _ b _ s2 upd_same rfl⟩
      · rw [decide_eq_false hm]
        rw [if_neg hm] at step
        refine ⟨_, rfl, _, _, rfl, rfl, _, rfl, ?_⟩
        rw [decide_eq_false hm]
        refine ⟨_, rfl, os, qs, _, _, _, _, _, by rw [eb]; rfl, sm, eo, hO, okq, by rw [hd, step], by omega⟩
    · rintro σ H1 ⟨os, qs, v6, v7, v8, v9, v10, rfl, sm, eo, hO, okq, hd, hl⟩
      rw [List.length_map] at hd hl
      have := hR.len
      rw [List.take_of_length_le (by omega)] at hd
      exact ⟨_, rfl, q H1 o qs sm ⟨os, eo, hO⟩ okq hd (by omega)⟩
end
end K24

/-! part D6 -/
set_option Elab.async false
set_option linter.all false
set_option maxRecDepth 100000
set_option maxHeartbeats 4000000
namespace K24
open PySem PySem.Spec PyProof.Rows L2
section
variable {J : It} {n : Nat} {G : Hp → Prop} {Y : Nat → Hp → V → Hp → Prop}
theorem get_snoc {α : Type} {l : List α} {a : α} {i : Nat} {x : α} (h : (l ++ [a])[i]? = some x) : (i < l.length ∧ l[i]? = some x) ∨ (i = l.length ∧ x = a) := by
  by_cases hi : i < l.length
  · rw [List.getElem?_append_left hi] at h
    exact .inl ⟨hi, h⟩
  · rw [List.getElem?_append_right (by omega)] at h
    have : i - l.length = 0 := by
      cases e : i - l.length with
      | zero => rfl
      | succ k => rw [e] at h; simp at h
    rw [this] at h
    exact .inr ⟨by omega, (Option.some.inj h).symm⟩
/-- all is kept but the list at D -/
def SameD (D : Addr) (H H' : Hp) : Prop := ∀ b u, H b = some u → ¬ (b = D ∧ ∃ l, u = .lst l) → H' b = some u
theorem SameD.tup {D : Addr} {H H' : Hp} (s : SameD D H H') {a : Addr} {xs : List V} (h : H a = some (.tup xs)) : H' a = some (.tup xs) := s a _ h fun z => by
  obtain ⟨_, l, e⟩ := z
  cases e
theorem SameD.ne {D : Addr} {H H' : Hp} (s : SameD D H H') {a : Addr} {o : HO} (ha : a ≠ D) (h : H a = some o) : H' a = some o := s a _ h fun z => ha z.1
theorem SameD.of {D : Addr} {H H' : Hp} (s : Same H H') : SameD D H H' := fun b u e _ => s b u e
/-- a comprehension whose i-th item is told by F -/
theorem lc_rel (w : Walk J n G Y) {g : TG} {te : TE} {vs : List Nat} {σ : L2.St} {H1 : Hp} {D : Addr} {Qd : Hp → Prop} (F : Nat → V → Hp → Prop) (hF : ∀ i y H H', SameD D H H' → F i y H → F i y H') (hD : H1 D = none) (hn : n < sizeLine)
    (hG : ∀ H, Same H1 H → G H)
    (hs : ∀ i x H H' acc, i < n → Same H1 H → H D = some (.lst acc) → Y i H x H' → ∀ N : VK, (∀ y H4, F i y H4 → Same H H4 → N y H4) → g x (wipe σ vs) H' fun σ2 H2 => wipe σ2 vs = wipe σ vs ∧ te σ2 H2 N)
    (hd : ∀ H ys, Same H1 H → H D = some (.lst ys) → ys.length = n → (∀ i y, ys[i]? = some y → F i y H) → Qd H) :
    ∃ W : Nat → Nat → Hp → Prop, (∃ m, W 0 m (upd H1 D (.lst []))) ∧ ∀ i m H, W i m H →
      (J.stop i H ∧ Qd H) ∨ (J.go i H ∧ ∃ Nx : Hp → Prop, (∀ H', Nx H' → ∃ m', m' < m ∧ W (i + 1) m' H') ∧ ∀ x H', J.yld i H x H' → g x (wipe σ vs) H' fun σ2 H2 => wipe σ2 vs = wipe σ vs ∧ tYes σ2 H2 fun b H3 =>
        if b = true then te σ2 H3 fun y H4 => ∃ acc, H4 D = some (.lst acc) ∧ acc.length < sizeLine ∧ Nx (upd H4 D (.lst (acc ++ [y]))) else Nx H3) := by
  have hDF : ∀ H o, Same H1 H → Same H1 (upd H D o) := fun H o s b u e => by
    rw [upd_ne (ne_of_none e hD)]
    exact s _ _ e
  refine lc_it w (tt := tYes) (te := te) (fun i H => Same H1 H ∧ ∃ ys, H D = some (.lst ys) ∧ ys.length = i ∧ ∀ j y, ys[j]? = some y → F j y H) ⟨Same.new hD, [], upd_same, rfl, fun j y e => by simp at e⟩ (fun i H _ p => hG H p.1) ?_ ?_
  · rintro i x H H' hi ⟨sm, ys, eD, hl, hf⟩ y
    refine hs i x H H' ys hi sm eD y _ fun y H4 fy s4 => ?_
    have eD4 := s4 _ _ eD
    have sU : SameD D H4 (upd H4 D (.lst (ys ++ [y]))) := fun b u e nb => by
      have hb : b ≠ D := fun z => by
        subst z
        rw [eD4] at e
        exact nb ⟨rfl, ys, (Option.some.inj e).symm⟩
      rw [upd_ne hb]
      exact e
    refine ⟨ys, eD4, by omega, hDF _ _ (sm.trans s4), _, upd_same, by simp [hl], fun j z hj => ?_⟩
    rcases get_snoc hj with ⟨_, hj⟩ | ⟨rfl, rfl⟩
    · exact hF j z _ _ sU (hF j z _ _ (.of s4) (hf j z hj))
    · rw [hl]
      exact hF i z _ _ sU fy
  · rintro H ⟨sm, ys, eD, hl, hf⟩
    exact hd H ys sm eD hl hf
/-- .. whose values are known -/
theorem lc_vals (w : Walk J n G Y) {g : TG} {te : TE} {vs : List Nat} {σ : L2.St} {H1 : Hp} {D : Addr} {Qd : Hp → Prop} (vals : List V) (hv : vals.length = n) (hD : H1 D = none) (hn : n < sizeLine) (hG : ∀ H, Same H1 H → G H)
    (hs : ∀ i x H H' acc, i < n → Same H1 H → H D = some (.lst acc) → Y i H x H' → ∀ N : VK, (∀ y H4, vals[i]? = some y → Same H H4 → N y H4) → g x (wipe σ vs) H' fun σ2 H2 => wipe σ2 vs = wipe σ vs ∧ te σ2 H2 N)
    (hd : ∀ H, Same H1 H → H D = some (.lst vals) → Qd H) :
    ∃ W : Nat → Nat → Hp → Prop, (∃ m, W 0 m (upd H1 D (.lst []))) ∧ ∀ i m H, W i m H →
      (J.stop i H ∧ Qd H) ∨ (J.go i H ∧ ∃ Nx : Hp → Prop, (∀ H', Nx H' → ∃ m', m' < m ∧ W (i + 1) m' H') ∧ ∀ x H', J.yld i H x H' → g x (wipe σ vs) H' fun σ2 H2 => wipe σ2 vs = wipe σ vs ∧ tYes σ2 H2 fun b H3 =>
        if b = true then te σ2 H3 fun y H4 => ∃ acc, H4 D = some (.lst acc) ∧ acc.length < sizeLine ∧ Nx (upd H4 D (.lst (acc ++ [y]))) else Nx H3) :=
  lc_rel w (fun i y _ => vals[i]? = some y) (fun _ _ _ _ _ h => h) hD hn hG hs fun H ys sm eD hl hf => by
    have e : ys = vals := List.ext_getElem? fun i => by
      by_cases hi : i < ys.length
      · rw [List.getElem?_eq_getElem hi, hf i _ (List.getElem?_eq_getElem hi)]
      · rw [List.getElem?_eq_none_iff.mpr (by omega), List.getElem?_eq_none_iff.mpr (by omega)]
    rw [e] at eD
    exact hd H sm eD
/-- a dict comprehension whose keys are known and differ, its values told by F -/
theorem dc_rel (w : Walk J n G Y) {g : TG} {tk tv : TE} {vs : List Nat} {σ : L2.St} {H1 : Hp} {D : Addr} {Qd : Hp → Prop} (ks : List Key) (hk : ks.length = n) (nd : ks.Nodup) (F : Nat → V → Hp → Prop) (hF : ∀ i y H H', (∀ b u, H b = some u → (∀ kvs, u ≠ .dK kvs) ∨ b ≠ D → H' b = some u) → F i y H → F i y H')
    (hD : H1 D = none) (hn : n < sizeLine) (hG : ∀ H, Same H1 H → G H)
    (hs : ∀ i x H H' acc, i < n → Same H1 H → H D = some (.dK acc) → Y i H x H' → ∀ N : V → V → Hp → Prop, (∀ k z H4, ks[i]? = some k → F i z H4 → Same H H4 → N (kV k) z H4) → g x (wipe σ vs) H' fun σ2 H2 => wipe σ2 vs = wipe σ vs ∧ tk σ2 H2 fun y H3 => tv σ2 H3 fun z H4 => N y z H4)
    (hd : ∀ H zs, Same H1 H → zs.length = n → H D = some (.dK (ks.zip zs)) → (∀ i z, zs[i]? = some z → F i z H) → Qd H) :
    ∃ W : Nat → Nat → Hp → Prop, (∃ m, W 0 m (upd H1 D (.dK []))) ∧ ∀ i m H, W i m H →
      (J.stop i H ∧ Qd H) ∨ (J.go i H ∧ ∃ Nx : Hp → Prop, (∀ H', Nx H' → ∃ m', m' < m ∧ W (i + 1) m' H') ∧ ∀ x H', J.yld i H x H' → g x (wipe σ vs) H' fun σ2 H2 => wipe σ2 vs = wipe σ vs ∧ tYes σ2 H2 fun b H3 =>
        if b = true then tk σ2 H3 fun y H4 => tv σ2 H4 fun z H5 => ∃ kvs k, y = kV k ∧ H5 D = some (.dK kvs) ∧ kvs.length < sizeLine ∧ Nx (upd H5 D (.dK (putK kvs k z))) else Nx H3) := by
  have hDF : ∀ H o, Same H1 H → Same H1 (upd H D o) := fun H o s b u e => by
    rw [upd_ne (ne_of_none e hD)]
    exact s _ _ e
  refine ⟨fun i m H => m = n - i ∧ i ≤ n ∧ Same H1 H ∧ ∃ zs, H D = some (.dK ((ks.take i).zip zs)) ∧ zs.length = i ∧ ∀ j y, zs[j]? = some y → F j y H, ⟨n, by simp, Nat.zero_le _, Same.new hD, [], upd_same, rfl, fun j y e => by simp at e⟩, ?_⟩
  rintro i m H ⟨rfl, hi, sm, zs, eD, hl, hf⟩
  by_cases hlt : i < n
  · refine .inr ⟨w.goes i H hlt (hG H sm), fun H => i + 1 ≤ n ∧ Same H1 H ∧ ∃ zs, H D = some (.dK ((ks.take (i + 1)).zip zs)) ∧ zs.length = i + 1 ∧ ∀ j y, zs[j]? = some y → F j y H, fun H' p' => ⟨n - (i + 1), by omega, rfl, p'⟩, fun x H' y => ?_⟩
    refine hs i x H H' _ hlt sm eD (w.yields i H x H' hlt (hG H sm) y) _ fun k z H4 ek fz s4 => ?_
    have eD4 := s4 _ _ eD
    have hzl : ((ks.take i).zip zs).length = i := by rw [List.length_zip, List.length_take]; omega
    have hnk : valV ((ks.take i).zip zs) k = none := by
      cases q : valV ((ks.take i).zip zs) k with
      | none => rfl
      | some v =>
        have m1 := valV_in q
        obtain ⟨p, hp, e⟩ := List.mem_map.mp m1
        have m2 : p.1 ∈ ks.take i := (List.of_mem_zip (show (p.1, p.2) ∈ _ from hp)).1
        rw [e] at m2
        obtain ⟨j, hj, ej⟩ := List.getElem_of_mem m2
        have hj2 : j < i := by rw [List.length_take] at hj; omega
        have e3 : ks[j]? = some k := by
          rw [← ej, List.getElem_take]
          exact List.getElem?_eq_getElem _
        have := nd_ix nd e3 ek
        omega
    have sU : ∀ b u, H4 b = some u → (∀ kvs, u ≠ .dK kvs) ∨ b ≠ D → (upd H4 D (.dK (putK ((ks.take i).zip zs) k z))) b = some u := fun b u e nb => by
      have hb : b ≠ D := fun q => by
        subst q
        rw [eD4] at e
        rcases nb with nb | nb
        · exact nb _ (Option.some.inj e).symm
        · exact nb rfl
      rw [upd_ne hb]
      exact e
    refine ⟨_, k, rfl, eD4, by omega, hlt, hDF _ _ (sm.trans s4), zs ++ [z], ?_, by simp [hl], fun j u hj => ?_⟩
    · rw [upd_same, putK_new _ hnk, take_more ek, List.zip_append (by rw [List.length_take]; omega)]
      rfl
    · rcases get_snoc hj with ⟨_, hj⟩ | ⟨rfl, rfl⟩
      · exact hF j u _ _ sU (hF j u _ _ (fun b u e _ => s4 b u e) (hf j u hj))
      · rw [hl]
        exact hF i u _ _ sU fz
  · have e : i = n := by omega
    subst e
    refine .inl ⟨w.stops H (hG H sm), ?_⟩
    rw [List.take_of_length_le (by omega)] at eD
    exact hd H zs sm hl eD hf
end
end K24

/-! part D7 -/
set_option Elab.async false
set_option linter.all false
set_option maxRecDepth 100000
set_option maxHeartbeats 4000000
namespace K24
open PySem PySem.Spec PyProof.Rows L2
/-! ### the class Edits -/
abbrev MAXL : Int := 1000000000
theorem ne_pl_ : ¬ (("pieces" : Str) = "length") := by decide +kernel
theorem ne_lp_ : ¬ (("length" : Str) = "pieces") := by decide +kernel
def edF (tp : Addr) (n : Int) : List (Str × V) := putF "length" (.int n) (putF "pieces" (.ref tp) [])
theorem edF_p (tp : Addr) (n : Int) : (edF tp n).lookup ("pieces" : Str) = some (.ref tp) := by
  unfold edF
  rw [lookup_putF, if_neg ne_pl_, lookup_putF, if_pos rfl]
theorem edF_l (tp : Addr) (n : Int) : (edF tp n).lookup ("length" : Str) = some (.int n) := by
  unfold edF
  rw [lookup_putF, if_pos rfl]
theorem edF_no (tp : Addr) (n : Int) {m : Str} (h1 : ¬ m = "length") (h2 : ¬ m = "pieces") : (edF tp n).lookup m = none := by
  unfold edF
  rw [lookup_putF, if_neg h1, lookup_putF, if_neg h2]
  rfl
/-- at x: the edit list that leads to L -/
def EdAt (C : Addr) (H : Hp) (x : Addr) (L : Mo) : Prop := ∃ (dx tp : Addr) (ps : List Pc), H x = some (.ins C dx (edF tp L.length)) ∧ TT pcV H tp ps ∧ Can ps ∧ dens ps = L
theorem SameF.ins {H H' : Hp} (s : SameF H H') {a C dx : Addr} {fs : List (Str × V)} (h : H a = some (.ins C dx fs)) : H' a = some (.ins C dx fs) := s a _ h (fun ⟨_, _, e⟩ => by cases e)
theorem EdAt.keep {C : Addr} {H H' : Hp} {x : Addr} {L : Mo} (h : EdAt C H x L) (s : SameF H H') : EdAt C H' x L := by
  obtain ⟨dx, tp, ps, h1, h2, h3, h4⟩ := h
  exact ⟨dx, tp, ps, s.ins h1, h2.keep s, h3, h4⟩
structure ClE (K : PySem.W.Frag) (mg : Str → Option Value) (C : Addr) : Prop where
  cl : Cls K C
  nP : NoAttr K C "pieces"
  nL : NoAttr K C "length"
def spEdInit (C : Addr) : Sp := fun vs H Q _ => ∃ (x dx a : Addr) (ps : List Pc), vs = [.ref x, .ref a] ∧ H x = some (.ins C dx []) ∧ TL pcV H a ps ∧ (∀ p ∈ ps, Pok p) ∧ ps.length ≤ 100000 ∧ ((dens ps).length : Int) ≤ MAXL ∧
  ∀ H', (∀ b o, H b = some o → b ≠ x → H' b = some o) → EdAt C H' x (dens ps) → Q .non H'
/-- Edits(..), read -/
theorem ed_make {C : Addr} {H1 : Hp} {Q : VK} {E : XK} {a : Addr} {ps : List Pc} (hL : TL pcV H1 a ps) (ok : ∀ p ∈ ps, Pok p) (hl : ps.length ≤ 100000) (hz : ((dens ps).length : Int) ≤ MAXL)
    (k : ∀ H' x, Same H1 H' → EdAt C H' x (dens ps) → Q (.ref x) H') : ∀ x dx, H1 x = none → H1 dx = none → dx ≠ x →
    spEdInit C (.ref x :: ([.ref a] ++ [])) (upd (upd H1 dx (.own x)) x (.ins C dx [])) (fun v H2 => v = .non ∧ Q (.ref x) H2) E := by
  intro x dx nx nd ne
  have s1 : Same H1 (upd (upd H1 dx (.own x)) x (.ins C dx [])) := fun b o e => by
    rw [upd_ne (ne_of_none e nx), upd_ne (ne_of_none e nd)]
    exact e
  exact ⟨x, dx, a, ps, rfl, upd_same, hL.keep (.of s1), ok, hl, hz, fun H' kp ed => ⟨rfl, k H' x (fun b o e => kp b o (s1 b o e) (ne_of_none e nx)) ed⟩⟩
def spEdChk (C : Addr) : Sp := fun vs H Q _ => ∃ (x : Addr) (L : Mo) (a b : Nat), vs = [.ref x, .int a, .int b] ∧ EdAt C H x L ∧ a ≤ b ∧ b ≤ L.length ∧ Q .non H
def spEdOp (C : Addr) (F : Mo → Nat → Nat → Mo) : Sp := fun vs H Q _ => ∃ (x : Addr) (L : Mo) (a b : Nat), vs = [.ref x, .int a, .int b] ∧ EdAt C H x L ∧ a ≤ b ∧ b ≤ L.length ∧ (L.length : Int) ≤ MAXL ∧ mm false L ≤ 1000 ∧
  ∀ H' y, Same H H' → EdAt C H' y (F L a b) → Q (.ref y) H'
def cutL (L : Mo) (a b : Nat) : Mo := L.take a ++ L.drop b
def midL (L : Mo) (a b : Nat) : Mo := (L.take b).drop a
def fasL (L : Mo) (a b f : Nat) : Mo := L.take a ++ smp L a b f ++ L.drop b
def spEdFas (C : Addr) : Sp := fun vs H Q _ => ∃ (x : Addr) (L : Mo) (a b f : Nat), vs = [.ref x, .int a, .int b, .int f] ∧ EdAt C H x L ∧ a ≤ b ∧ b ≤ L.length ∧ 1 ≤ f ∧ f ≤ 1000 ∧ (L.length : Int) ≤ MAXL ∧ mm false L ≤ 1000 ∧
  ∀ H' y, Same H H' → EdAt C H' y (fasL L a b f) → Q (.ref y) H'
section
variable {P : Program} {w : World} {K : PySem.W.Frag} {mg : Str → Option Value} {base : Heap} {CE : Addr}
theorem sc_Edits___init__ : FnScope ["self", "pieces", "index", "piece", "length"] ["self", "pieces"] (defScope (inClass (top 22) 0)) := ⟨rfl, rfl, rfl, by decide +kernel, rfl, by decide +kernel, by decide +kernel⟩
theorem ok_Edits_init (T : Tx K mg) (TE : ClE K mg CE) (D : Has K (dM "Edits" "__init__" "Edits.__init__" 22 0)) (M : Mk K CE (He.fAd K ("Edits", some "__init__"))) (g : mg "Edits" = some (.ref CE))
    (G_is_piece : OkG P w K mg base 2 "is_piece" ["value"] spIsPc) (G_length_of : OkG P w K mg base 1 "length_of" ["piece"] spLen) (G_as_far_as_they_can : OkG P w K mg base 3 "as_far_as_they_can" ["pieces"] spFar) :
    OkN P w K mg base 4 CE "Edits" ["self", "pieces"] (spEdInit CE) := by
  refine okN D M g sc_Edits___init__ (fun _ _ _ _ _ _ us hl => match us, hl with | [_, _], _ => rfl) (fun vs H Q E h => ?_) (fun f cdv A outer s H vs Q E hr h => ?_)
  · obtain ⟨x, dx, a, ps, rfl, _⟩ := h
    rfl
  · obtain ⟨x, dx, a, ps, rfl, hx, ⟨rs, eL, hR⟩, ok, hz, hB, q⟩ := h
    refine ⟨_, PSs.nox (pss_cons (ps_if (pt_not (pt_val (pe_callB call_isi (by rfl) T.isinstance (by decide +kernel) (pa_cons (pv 1) (pa_cons (pe_bltn (v := .ty "list") (by rfl) T.list (by decide +kernel) rfl) pa_nil)))))
        (pss_one ps_never)
        pss_nil)
      (pss_cons (ps_for PassesOwn.never rfl (pi_enum (by rfl) T.enumerate (pa_cons (pv 1) pa_nil)) (pg_tup rfl (pgs_cons (pg_name (i := 2) sc_Edits___init__.nd rfl (Or.inl rfl)) (pgs_cons (pg_name (i := 3) sc_Edits___init__.nd rfl (Or.inl rfl)) pgs_nil)))
        (pss_one (ps_if (pt_not (pt_val (pe_cG G_is_piece (hr.mono (by decide)) rfl passL (pa_cons (pv 3) pa_nil))))
            (pss_one ps_never)
            pss_nil)))
      (pss_cons (ps_set (i := 4) sc_Edits___init__.nd rfl (Or.inl rfl) (pe_callB (cr_sum rfl) (by rfl) T.sum (by decide +kernel) (pa_cons (pe_lc (own := [("piece", 3)]) rfl sc_Edits___init__.nd (pi_list (pv 1)) (blkOk_by (N := ["self", "pieces", "index", "piece", "length"]) (sc := (defScope (inClass (top 22) 0))) (by decide +kernel)) (fun _ _ _ _ _ => (pg_name (i := 3) sc_Edits___init__.nd rfl (Or.inl rfl))) (fun _ _ _ _ _ => pts_nil) (fun _ _ _ _ _ => (pe_cG G_length_of (hr.mono (by decide)) rfl passL (pa_cons (pv 3) pa_nil)))) pa_nil)))
      (pss_cons (ps_if (pt_cmpR op_gt (pv 4) (pe_gC rfl (cI T.MAX_LENGTH)) (nomark _))
        (pss_one ps_never)
        pss_nil)
      (pss_cons (ps_fld (pv 0) (pe_callTy call_tuple_of (by rfl) T.tuple (by decide +kernel) (pa_cons (pe_cG G_as_far_as_they_can hr rfl passL (pa_cons (pv 1) pa_nil)) pa_nil)) rfl)
      (pss_one (ps_fld (pv 0) (pv 4) rfl))))))), ?_⟩
    refine ⟨_, rfl, _, _, _, _, true, rfl, .ty _, .base (.lst eL), kit_ty (by decide +kernel), _, rfl, ?_⟩
    -- for index, piece in enumerate(pieces)
    refine ⟨_, rfl, a, rs.map V.ref, rfl, SqL.of eL, for_it walk_enum (fun i σ H1 => ∃ v2 v3 : Option V, σ = [some (.ref x), some (.ref a), v2, v3, none] ∧ Same H H1) ⟨none, none, rfl, Same.refl _⟩ (fun i σ H1 _ ⟨_, _, _, sm⟩ => SqL.of (sm _ _ eL)) ?_ ?_⟩
    · rintro i y σ H1 H2 hi ⟨v2, v3, rfl, sm⟩ ⟨U, u1, u2, rfl, hU, rfl, e1, e2⟩
      have e1 : V.int (i : Nat) = u1 := Option.some.inj e1
      subst e1
      obtain ⟨r, p, rfl, h1, h2, h3⟩ := tl_get hR e2
      have hmem : p ∈ ps := List.mem_of_getElem? h2
      have s2 := sm.up (o := .tup [.int (i : Nat), .ref r]) hU
      refine ⟨U, _, rfl, SqT.of upd_same, rfl, _, _, rfl, _, _, rfl, rfl, ?_⟩
      refine ⟨_, rfl, r, p, rfl, s2 _ _ h3, ok p hmem, _, rfl, ?_⟩
      exact ⟨_, _, rfl, s2⟩
    · rintro σ H1 ⟨v2, v3, rfl, sm⟩
      -- length = sum([..])
      refine ⟨_, rfl, a, rfl, ⟨_, SqL.of (sm _ _ eL)⟩, fun Dd hD => ?_⟩
      refine lc_vals walk_list ((ps.map plen).map V.int) (by simp [hR.len]) hD (by simp; have := hR.len; rw [sizeLine_eq]; omega) (fun H2 s2 => SqL.of (s2 _ _ (sm _ _ eL))) ?_ ?_
      · rintro i y H2 H3 acc hi s2 eD ⟨rfl, ey⟩ N hN
        obtain ⟨r, p, rfl, h1, h2, h3⟩ := tl_get hR ey
        refine ⟨rfl, _, rfl, r, p, rfl, s2 _ _ (sm _ _ h3), ?_⟩
        exact hN _ _ (by simp [h2]) (Same.refl _)
      · intro H2 s2 eD
        refine ⟨Dd, ps.map plen, rfl, SqL.of eD, ?_⟩
        have elen : (ps.map plen).sum = ((dens ps).length : Int) := (dens_len ok).symm
        rw [elen]
        have s3 := sm.trans s2
        -- if length > MAX_LENGTH
        refine ⟨_, rfl, _, _, rfl, rfl, _, rfl, ?_⟩
        rw [decide_eq_false (show ¬ (1000000000 : Int) < ((dens ps).length : Int) by have : MAXL = 1000000000 := rfl; omega)]
        -- self.pieces = tuple(..)
        refine ⟨_, rfl, a, ps, rfl, ⟨rs, s3 _ _ eL, Tp.keep (f := pcV) hR (.of s3)⟩, ok, by omega, by have : BIG = 1099511627776 := rfl; have : MAXL = 1000000000 := rfl; omega, fun H4 b qs s4 hb hC hd hl => ?_⟩
        obtain ⟨ts, et, hT⟩ := hb
        refine ⟨b, _, rfl, .inl ⟨SqL.of et, fun l hl0 => ?_⟩⟩
        have s5 := s4.up (o := .tup (ts.map V.ref)) hl0
        have hx5 : upd H4 l (.tup (ts.map V.ref)) x = some (.ins CE dx []) := s5 _ _ (s3 _ _ hx)
        have nxl : l ≠ x := fun z => by
          rw [z, s4 _ _ (s3 _ _ hx)] at hl0
          cases hl0
        refine ⟨_, rfl, x, CE, dx, _, rfl, hx5, TE.cl, TE.nP, (by show 0 < 1000; decide), ?_⟩
        refine ⟨_, rfl, _, rfl, x, CE, dx, _, rfl, upd_same, TE.cl, TE.nL, (by show 1 < 1000; decide), ?_⟩
        refine q _ (fun u o e hu => ?_) ⟨dx, l, qs, by rw [upd_same]; rfl, ⟨ts, ?_, ?_⟩, hC, hd⟩
        · rw [upd_ne hu, upd_ne hu]
          exact s5 _ _ (s3 _ _ e)
        · rw [upd_ne nxl, upd_ne nxl, upd_same]
        · refine Paired.mapP hT fun u o e => ?_
          have hu : u ≠ x := ne_of e (s4 _ _ (s3 _ _ hx)) (by intro z; cases z)
          rw [upd_ne hu, upd_ne hu, upd_ne (ne_of_none e hl0)]
          exact e
end
end K24

/-! part D8 -/
set_option Elab.async false
set_option linter.all false
set_option maxRecDepth 100000
set_option maxHeartbeats 4000000
namespace K24
open PySem PySem.Spec PyProof.Rows L2
/-- what isinstance asks of an own class -/
structure InsT (K : PySem.W.Frag) (C : Addr) : Prop where
  ha : PySem.W.findIn K (.ref C) "__class__" = some (some (.builtin "object.__class__"))
  hn : PySem.W.specialIn K (.builtin "object.__class__") "__get__" = some (some (.builtin "getset_descriptor.__get__"))
  htk : PySem.W.takesIn K (.builtin "object.__class__") = some true
  hm : PySem.W.mroIn K C (.type "object") = some true
theorem kit_self {K : PySem.W.Frag} {C : Addr} : PySem.W.kitOne K (.ref C) (.ref C) = some true := by
  unfold PySem.W.kitOne
  rw [if_pos (by simp)]
theorem str_ok_nothing : PyData.canLay0 (.str "nothing") = true := by decide +kernel
theorem str_ok_play : PyData.canLay0 (.str "play") = true := by decide +kernel
theorem pcD_lay (p : Pc) : (pcD p).canLay0 = true := by
  cases p with
  | no n => simp only [pcD, PyData.canLay0, PyData.canLayAll0]; have := str_ok_nothing; simp only [PyData.canLay0] at this; rw [this]; rfl
  | pl s l t => simp only [pcD, PyData.canLay0, PyData.canLayAll0]; have := str_ok_play; simp only [PyData.canLay0] at this; rw [this]; rfl
theorem pcD_depth (p : Pc) : (pcD p).depth ≤ 4 := by
  cases p <;> simp [pcD, PyData.depth, PyData.depthAll]
theorem pcs_lay : ∀ ps : List Pc, PyData.canLayAll0 (ps.map pcD) = true
  | [] => rfl
  | p :: ps => by rw [List.map_cons, PyData.canLayAll0, pcD_lay, pcs_lay ps]; rfl
theorem pcs_depth : ∀ ps : List Pc, PyData.depthAll (ps.map pcD) ≤ 4
  | [] => by simp [PyData.depthAll]
  | p :: ps => by
    have h1 := pcD_depth p
    have h2 := pcs_depth ps
    simp only [List.map_cons, PyData.depthAll]
    omega
theorem pcs_shaped (ps : List Pc) : SeqAt.shaped (.tuple (ps.map pcD)) = true := by
  unfold SeqAt.shaped
  have h1 : (PyData.tuple (ps.map pcD)).canLay0 = true := by rw [PyData.canLay0]; exact pcs_lay ps
  have h2 : (PyData.tuple (ps.map pcD)).depth ≤ 64 := by
    have := pcs_depth ps
    simp only [PyData.depth]
    omega
  rw [h1, decide_eq_true h2]
  rfl
theorem TT.dp {K : PySem.W.Frag} {H : Hp} {a : Addr} {ps : List Pc} (h : TT pcV H a ps) : Dp K H (.ref a) (.tuple (ps.map pcD)) := by
  obtain ⟨rs, h1, h2⟩ := h
  exact .tup (SqT.of h1) (pcs_dp h2)
/-- two edit lists that lead to the same -/
def EdSame (C : Addr) : Addr → Addr → Hp → Prop := fun a b H => ∃ L, EdAt C H a L ∧ EdAt C H b L
section
variable {P : Program} {w : World} {K : PySem.W.Frag} {mg : Str → Option Value} {base : Heap} {CE : Addr}
theorem sc_Edits___eq__ : FnScope ["self", "other"] ["self", "other"] (defScope (inClass (top 22) 1)) := ⟨rfl, rfl, rfl, by decide +kernel, rfl, by decide +kernel, by decide +kernel⟩
theorem ok_Edits_eq (T : Tx K mg) (TE : ClE K mg CE) (TI : InsT K CE) (D : Has K (dM "Edits" "__eq__" "Edits.__eq__" 22 1)) (M : Meth K CE "__eq__" (He.fAd K ("Edits", some "__eq__"))) (g : mg "Edits" = some (.ref CE)) :
    OkM P w K mg base 1 CE "__eq__" ["self", "other"] (spEq (EdSame CE)) := by
  refine okM D TE.cl M sc_Edits___eq__ (fun _ _ _ _ _ _ us hl => match us, hl with | [_, _], _ => rfl) (fun vs H Q E h => ?_) (fun f cdv A outer s H vs Q E hr h => ?_)
  · obtain ⟨a, b, rfl, _⟩ := h
    rfl
  · obtain ⟨a, b, rfl, ⟨L, ea, eb⟩, q⟩ := h
    refine ⟨_, PSs.nox (pss_one (ps_ret (pe_and (pe_callB call_isi (by rfl) T.isinstance (by decide +kernel) (pa_cons (pv 1) (pa_cons (pe_glob (v := .ref CE) rfl g rfl) pa_nil))) (pe_one (pe_cmpR (op_eqD (un64 hr)) (pe_fld (pv 0) rfl) (pe_fld (pv 1) rfl) (nomark _)))))), ?_⟩
    obtain ⟨da, ta, pa, ha, hta, hca, hda⟩ := ea
    obtain ⟨db, tb, pb, hb, htb, hcb, hdb⟩ := eb
    obtain rfl : pa = pb := can_inj hca hcb (hda.trans hdb.symm)
    refine ⟨_, rfl, _, _, _, _, true, rfl, .own CE, .base (.ins hb TE.cl TI.ha TI.hn TI.htk TI.hm), kit_self, _, rfl, ?_⟩
    refine ⟨_, rfl, a, CE, da, _, _, rfl, ha, TE.cl, TE.nP, edF_p _ _, _, rfl, b, CE, db, _, _, rfl, hb, TE.cl, TE.nP, edF_p _ _, _, _, hta.dp, htb.dp, pcs_shaped _, pcs_shaped _, ?_⟩
    have er : PyData.eqv (.tuple (pa.map pcD)) (.tuple (pa.map pcD)) = true := SeqAt.eqv_refl _ (SeqAt.canLay_of_shaped (pcs_shaped pa))
    rw [er]
    exact q _ Ext.rfl'
theorem sc_Edits_check_stretch : FnScope ["self", "first", "last"] ["self", "first", "last"] (defScope (inClass (top 22) 4)) := ⟨rfl, rfl, rfl, by decide +kernel, rfl, by decide +kernel, by decide +kernel⟩
theorem ok_Edits_check (T : Tx K mg) (TE : ClE K mg CE) (D : Has K (dM "Edits" "check_stretch" "Edits.check_stretch" 22 4)) (M : Meth K CE "check_stretch" (He.fAd K ("Edits", some "check_stretch")))
    (G_is_integer : OkG P w K mg base 1 "is_integer" ["value", "least"] spInt) : OkM P w K mg base 2 CE "check_stretch" ["self", "first", "last"] (spEdChk CE) := by
  refine okM D TE.cl M sc_Edits_check_stretch (fun _ _ _ _ _ _ us hl => match us, hl with | [_, _, _], _ => rfl) (fun vs H Q E h => ?_) (fun f cdv A outer s H vs Q E hr h => ?_)
  · obtain ⟨x, L, a, b, rfl, _⟩ := h
    rfl
  · obtain ⟨x, L, a, b, rfl, ⟨dx, tp, ps, hx, _⟩, hab, hb, q⟩ := h
    refine ⟨_, PSs.nox (pss_one (ps_if (PW.pt (pw_or (pt_not (pt_val (pe_cG G_is_integer hr rfl passL (pa_cons (pv 1) (pa_cons pe_int pa_nil))))) (pw_or (pt_not (pt_val (pe_cG G_is_integer hr rfl passL (pa_cons (pv 2) (pa_cons pe_int pa_nil))))) (pw_or1 (pt_not (pt_chain op_le op_le (pv 1) (pv 2) (pe_fld (pv 0) rfl)))))))
        (pss_one ps_never)
        pss_nil)), ?_⟩
    have e1 : isI (.int ((a : Nat) : Int)) 0 = true := by
      show decide ((0 : Int) ≤ ((a : Nat) : Int)) = true
      exact decide_eq_true (by omega)
    have e2 : isI (.int ((b : Nat) : Int)) 0 = true := by
      show decide ((0 : Int) ≤ ((b : Nat) : Int)) = true
      exact decide_eq_true (by omega)
    refine ⟨_, rfl, _, _, rfl, .inr (.inr ⟨_, rfl⟩), _, rfl, ?_⟩
    rw [e1]
    refine ⟨_, rfl, _, _, rfl, .inr (.inr ⟨_, rfl⟩), _, rfl, ?_⟩
    rw [e2]
    refine ⟨_, rfl, _, rfl, _, _, rfl, rfl, _, rfl, ?_⟩
    rw [decide_eq_true (show (a : Int) ≤ b by omega)]
    refine ⟨_, rfl, x, CE, dx, _, _, rfl, hx, TE.cl, TE.nL, edF_l _ _, _, _, rfl, rfl, _, rfl, ?_⟩
    rw [decide_eq_true (show (b : Int) ≤ L.length by omega)]
    exact q
theorem sc_Edits_stretch : FnScope ["self", "first", "last"] ["self", "first", "last"] (defScope (inClass (top 22) 5)) := ⟨rfl, rfl, rfl, by decide +kernel, rfl, by decide +kernel, by decide +kernel⟩
theorem ok_Edits_stretch (T : Tx K mg) (TE : ClE K mg CE) (D : Has K (dM "Edits" "stretch" "Edits.stretch" 22 5)) (M : Meth K CE "stretch" (He.fAd K ("Edits", some "stretch")))
    (G_check_stretch : OkM P w K mg base 2 CE "check_stretch" ["self", "first", "last"] (spEdChk CE)) (G_sampled : OkG P w K mg base 2 "sampled" ["pieces", "first", "last", "factor"] (spSamp K))
    (G_Edits : OkN P w K mg base 4 CE "Edits" ["self", "pieces"] (spEdInit CE)) : OkM P w K mg base 6 CE "stretch" ["self", "first", "last"] (spEdOp CE midL) := by
  refine okM D TE.cl M sc_Edits_stretch (fun _ _ _ _ _ _ us hl => match us, hl with | [_, _, _], _ => rfl) (fun vs H Q E h => ?_) (fun f cdv A outer s H vs Q E hr h => ?_)
  · obtain ⟨x, L, a, b, rfl, _⟩ := h
    rfl
  · obtain ⟨x, L, a, b, rfl, he, hab, hb, hB, hm, q⟩ := h
    refine ⟨_, PSs.nox (pss_cons (ps_expr (pe_mG (pv 0) G_check_stretch (hr.mono (by decide)) passL (pa_cons (pv 1) (pa_cons (pv 2) pa_nil))))
      (pss_one (ps_ret (pe_nG G_Edits hr rfl passL (pa_cons (pe_cG G_sampled (hr.mono (by decide)) rfl passL (pa_cons (pe_fld (pv 0) rfl) (pa_cons (pv 1) (pa_cons (pv 2) (pa_cons pe_int pa_nil))))) pa_nil))))), ?_⟩
    obtain ⟨dx, tp, ps, hx, ht, hc, hd⟩ := id he
    have hl := can_mm hc
    rw [hd] at hl
    refine ⟨_, rfl, x, dx, _, rfl, hx, edF_no _ _ (by decide +kernel) (by decide +kernel), _, rfl, _, rfl, x, L, a, b, rfl, he, hab, hb, ?_⟩
    refine ⟨_, rfl, x, CE, dx, _, _, rfl, hx, TE.cl, TE.nP, edF_p _ _, _, rfl, _, rfl, tp, ps, a, b, 1, rfl, ht, hc.ok, by omega, ?_, ?_, ?_, by decide, by decide, fun H1 c qs s1 hL okq hdq hlq => ?_⟩
    · rw [hd]; have : BIG = 1099511627776 := rfl; have : MAXL = 1000000000 := rfl; omega
    · have : BIG = 1099511627776 := rfl; have : MAXL = 1000000000 := rfl; omega
    · have : BIG = 1099511627776 := rfl; have : MAXL = 1000000000 := rfl; omega
    have e1 : dens qs = midL L a b := by rw [hdq, hd, smp_one]; rfl
    refine ed_make hL okq (by omega) ?_ fun H2 y s2 hy => ?_
    · rw [e1]
      unfold midL
      rw [List.length_drop, List.length_take]
      omega
    · rw [e1] at hy
      exact q H2 y (s1.trans s2) hy
theorem sc_Edits_cut : FnScope ["self", "first", "last"] ["self", "first", "last"] (defScope (inClass (top 22) 6)) := ⟨rfl, rfl, rfl, by decide +kernel, rfl, by decide +kernel, by decide +kernel⟩
theorem ok_Edits_cut (T : Tx K mg) (TE : ClE K mg CE) (D : Has K (dM "Edits" "cut" "Edits.cut" 22 6)) (M : Meth K CE "cut" (He.fAd K ("Edits", some "cut")))
    (G_check_stretch : OkM P w K mg base 2 CE "check_stretch" ["self", "first", "last"] (spEdChk CE)) (G_sampled : OkG P w K mg base 2 "sampled" ["pieces", "first", "last", "factor"] (spSamp K))
    (G_Edits : OkN P w K mg base 4 CE "Edits" ["self", "pieces"] (spEdInit CE)) : OkM P w K mg base 6 CE "cut" ["self", "first", "last"] (spEdOp CE cutL) := by
  refine okM D TE.cl M sc_Edits_cut (fun _ _ _ _ _ _ us hl => match us, hl with | [_, _, _], _ => rfl) (fun vs H Q E h => ?_) (fun f cdv A outer s H vs Q E hr h => ?_)
  · obtain ⟨x, L, a, b, rfl, _⟩ := h
    rfl
  · obtain ⟨x, L, a, b, rfl, he, hab, hb, hB, hm, q⟩ := h
    refine ⟨_, PSs.nox (pss_cons (ps_expr (pe_mG (pv 0) G_check_stretch (hr.mono (by decide)) passL (pa_cons (pv 1) (pa_cons (pv 2) pa_nil))))
      (pss_one (ps_ret (pe_nG G_Edits hr rfl passL (pa_cons (pe_op op_cat (pe_cG G_sampled (hr.mono (by decide)) rfl passL (pa_cons (pe_fld (pv 0) rfl) (pa_cons pe_int (pa_cons (pv 1) (pa_cons pe_int pa_nil))))) (pe_cG G_sampled (hr.mono (by decide)) rfl passL (pa_cons (pe_fld (pv 0) rfl) (pa_cons (pv 2) (pa_cons (pe_fld (pv 0) rfl) (pa_cons pe_int pa_nil)))))) pa_nil))))), ?_⟩
    obtain ⟨dx, tp, ps, hx, ht, hc, hd⟩ := id he
    have hl := can_mm hc
    rw [hd] at hl
    have b1 : ((dens ps).length : Int) ≤ BIG := by rw [hd]; have : BIG = 1099511627776 := rfl; have : MAXL = 1000000000 := rfl; omega
    have b2 : (a : Int) ≤ BIG := by have : BIG = 1099511627776 := rfl; have : MAXL = 1000000000 := rfl; omega
    have b3 : (b : Int) ≤ BIG := by have : BIG = 1099511627776 := rfl; have : MAXL = 1000000000 := rfl; omega
    have b4 : ((L.length : Nat) : Int) ≤ BIG := by have : BIG = 1099511627776 := rfl; have : MAXL = 1000000000 := rfl; omega
    have b0 : ((0 : Nat) : Int) ≤ BIG := by decide
    refine ⟨_, rfl, x, dx, _, rfl, hx, edF_no _ _ (by decide +kernel) (by decide +kernel), _, rfl, _, rfl, x, L, a, b, rfl, he, hab, hb, ?_⟩
    refine ⟨_, rfl, x, CE, dx, _, _, rfl, hx, TE.cl, TE.nP, edF_p _ _, _, rfl, tp, ps, 0, a, 1, rfl, ht, hc.ok, by omega, b1, b0, b2, by decide, by decide, fun H1 c qs s1 hL okq hdq hlq => ?_⟩
    refine ⟨_, rfl, x, CE, dx, _, _, rfl, s1 _ _ hx, TE.cl, TE.nP, edF_p _ _, _, rfl, _, rfl, x, CE, dx, _, _, rfl, s1 _ _ hx, TE.cl, TE.nL, edF_l _ _, tp, ps, b, L.length, 1, rfl, ht.keep (.of s1), hc.ok, by omega, b1, b3, b4, by decide, by decide, fun H2 d us s2 hU oku hdu hlu => ?_⟩
    obtain ⟨rq, eq1, hq1⟩ := hL
    obtain ⟨ru, eu1, hu1⟩ := hU
    have l1 := hq1.len
    have l2 := hu1.len
    refine ⟨c, d, _, _, rfl, rfl, s2 _ _ eq1, eu1, by simp; rw [sizeLine_eq]; omega, fun o ho => ?_⟩
    have s3 := Same.new (o := .lst (rq.map V.ref ++ ru.map V.ref)) ho
    have e1 : dens (qs ++ us) = cutL L a b := by
      rw [dens_app, hdq, hdu, hd, smp_one, smp_one, List.take_length]
      rfl
    refine ed_make (ps := qs ++ us) ⟨rq ++ ru, by rw [upd_same, List.map_append], paired_append (Tp.keep (f := pcV) hq1 (.of (s2.trans s3))) (Tp.keep (f := pcV) hu1 (.of s3))⟩ (fun p hp => (List.mem_append.mp hp).elim (okq p) (oku p)) (by simp; omega) ?_ fun H4 y s4 hy => ?_
    · rw [e1]
      unfold cutL
      rw [List.length_append, List.length_drop, List.length_take]
      omega
    · rw [e1] at hy
      exact q H4 y (((s1.trans s2).trans s3).trans s4) hy
theorem sc_Edits_faster : FnScope ["self", "first", "last", "factor", "inner"] ["self", "first", "last", "factor"] (defScope (inClass (top 22) 7)) := ⟨rfl, rfl, rfl, by decide +kernel, rfl, by decide +kernel, by decide +kernel⟩
theorem ok_Edits_faster (T : Tx K mg) (TE : ClE K mg CE) (D : Has K (dM "Edits" "faster" "Edits.faster" 22 7)) (M : Meth K CE "faster" (He.fAd K ("Edits", some "faster")))
    (G_check_stretch : OkM P w K mg base 2 CE "check_stretch" ["self", "first", "last"] (spEdChk CE)) (G_sampled : OkG P w K mg base 2 "sampled" ["pieces", "first", "last", "factor"] (spSamp K))
    (G_Edits : OkN P w K mg base 4 CE "Edits" ["self", "pieces"] (spEdInit CE)) : OkM P w K mg base 6 CE "faster" ["self", "first", "last", "factor"] (spEdFas CE) := by
  refine okM D TE.cl M sc_Edits_faster (fun _ _ _ _ _ _ us hl => match us, hl with | [_, _, _, _], _ => rfl) (fun vs H Q E h => ?_) (fun fa cdv A outer s H vs Q E hr h => ?_)
  · obtain ⟨x, L, a, b, f, rfl, _⟩ := h
    rfl
  · obtain ⟨x, L, a, b, f, rfl, he, hab, hb, hf1, hf2, hB, hm, q⟩ := h
    refine ⟨_, PSs.nox (pss_cons (ps_expr (pe_mG (pv 0) G_check_stretch (hr.mono (by decide)) passL (pa_cons (pv 1) (pa_cons (pv 2) pa_nil))))
      (pss_cons (ps_set (i := 4) sc_Edits_faster.nd rfl (Or.inl rfl) (pe_cG G_sampled (hr.mono (by decide)) rfl passL (pa_cons (pe_fld (pv 0) rfl) (pa_cons (pv 1) (pa_cons (pv 2) (pa_cons (pv 3) pa_nil))))))
      (pss_one (ps_ret (pe_nG G_Edits hr rfl passL (pa_cons (pe_op op_cat (pe_op op_cat (pe_cG G_sampled (hr.mono (by decide)) rfl passL (pa_cons (pe_fld (pv 0) rfl) (pa_cons pe_int (pa_cons (pv 1) (pa_cons pe_int pa_nil))))) (pv 4)) (pe_cG G_sampled (hr.mono (by decide)) rfl passL (pa_cons (pe_fld (pv 0) rfl) (pa_cons (pv 2) (pa_cons (pe_fld (pv 0) rfl) (pa_cons pe_int pa_nil)))))) pa_nil)))))), ?_⟩
    obtain ⟨dx, tp, ps, hx, ht, hc, hd⟩ := id he
    have hl := can_mm hc
    rw [hd] at hl
    have b1 : ((dens ps).length : Int) ≤ BIG := by rw [hd]; have : BIG = 1099511627776 := rfl; have : MAXL = 1000000000 := rfl; omega
    have b2 : (a : Int) ≤ BIG := by have : BIG = 1099511627776 := rfl; have : MAXL = 1000000000 := rfl; omega
    have b3 : (b : Int) ≤ BIG := by have : BIG = 1099511627776 := rfl; have : MAXL = 1000000000 := rfl; omega
    have b4 : ((L.length : Nat) : Int) ≤ BIG := by have : BIG = 1099511627776 := rfl; have : MAXL = 1000000000 := rfl; omega
    have b0 : ((0 : Nat) : Int) ≤ BIG := by decide
    refine ⟨_, rfl, x, dx, _, rfl, hx, edF_no _ _ (by decide +kernel) (by decide +kernel), _, rfl, _, rfl, x, L, a, b, rfl, he, hab, hb, ?_⟩
    -- inner
    refine ⟨_, rfl, x, CE, dx, _, _, rfl, hx, TE.cl, TE.nP, edF_p _ _, _, rfl, _, rfl, _, rfl, tp, ps, a, b, f, rfl, ht, hc.ok, by omega, b1, b2, b3, hf1, by omega, fun H0 ci qi s0 hLi oki hdi hli => ?_⟩
    refine ⟨_, rfl, x, CE, dx, _, _, rfl, s0 _ _ hx, TE.cl, TE.nP, edF_p _ _, _, rfl, tp, ps, 0, a, 1, rfl, ht.keep (.of s0), hc.ok, by omega, b1, b0, b2, by decide, by decide, fun H1 c qs s1 hL okq hdq hlq => ?_⟩
    obtain ⟨ri, ei1, hi1⟩ := hLi
    obtain ⟨rq, eq1, hq1⟩ := hL
    have l0 := hi1.len
    have l1 := hq1.len
    refine ⟨_, rfl, c, ci, _, _, rfl, rfl, eq1, s1 _ _ ei1, by simp; rw [sizeLine_eq]; omega, fun oo hoo => ?_⟩
    have s2 := Same.new (o := .lst (rq.map V.ref ++ ri.map V.ref)) hoo
    have sA := (s0.trans s1).trans s2
    refine ⟨_, rfl, x, CE, dx, _, _, rfl, sA _ _ hx, TE.cl, TE.nP, edF_p _ _, _, rfl, _, rfl, x, CE, dx, _, _, rfl, sA _ _ hx, TE.cl, TE.nL, edF_l _ _, tp, ps, b, L.length, 1, rfl, ht.keep (.of sA), hc.ok, by omega, b1, b3, b4, by decide, by decide, fun H2 d us s3 hU oku hdu hlu => ?_⟩
    obtain ⟨ru, eu1, hu1⟩ := hU
    have l2 := hu1.len
    refine ⟨oo, d, _, _, rfl, rfl, s3 _ _ upd_same, eu1, by simp; rw [sizeLine_eq]; omega, fun o ho => ?_⟩
    have s4 := Same.new (o := .lst (rq.map V.ref ++ ri.map V.ref ++ ru.map V.ref)) ho
    have e1 : dens (qs ++ qi ++ us) = fasL L a b f := by
      rw [dens_app, dens_app, hdq, hdi, hdu, hd, smp_one, smp_one, List.take_length]
      rfl
    refine ed_make (ps := qs ++ qi ++ us) ⟨rq ++ ri ++ ru, by rw [upd_same, List.map_append, List.map_append], paired_append (paired_append (Tp.keep (f := pcV) hq1 (.of ((s2.trans s3).trans s4))) (Tp.keep (f := pcV) hi1 (.of (((s1.trans s2).trans s3).trans s4)))) (Tp.keep (f := pcV) hu1 (.of s4))⟩
      (fun p hp => (List.mem_append.mp hp).elim (fun hp => (List.mem_append.mp hp).elim (okq p) (oki p)) (oku p)) (by simp; omega) ?_ fun H4 y s5 hy => ?_
    · rw [e1]
      unfold fasL
      rw [List.length_append, List.length_append, List.length_drop, List.length_take, smp_len]
      have h1 : cdiv (min b L.length - a) f ≤ b - a := by
        rw [cdiv_le hf1]
        have : (b - a) * 1 ≤ (b - a) * f := Nat.mul_le_mul_left _ hf1
        omega
      omega
    · rw [e1] at hy
      exact q H4 y ((sA.trans s3).trans (s4.trans s5)) hy
end
end K24

/-! part D9 -/
set_option Elab.async false
set_option linter.all false
set_option maxRecDepth 100000
set_option maxHeartbeats 4000000
namespace K24
open PySem PySem.Spec PyProof.Rows L2
/-! ### names and samples -/
abbrev ABC : Str := "abcdefghijklmnopqrstuvwxyz"
def NmOk (x : Str) : Prop := 1 ≤ x.length ∧ x.length ≤ 8 ∧ ∀ c ∈ x.cps.toList, c ∈ ABC.cps.toList
structure Smp where
  sz : Int
  ln : Int
  ky : Bool
def smV (s : Smp) : List V := [.int s.sz, .int s.ln, .bl s.ky]
def Sok (s : Smp) : Prop := 1 ≤ s.sz ∧ s.sz ≤ 1000000000 ∧ 1 ≤ s.ln ∧ s.ln ≤ 1000000
def SsOk (ss : List Smp) : Prop := (∀ s ∈ ss, Sok s) ∧ 1 ≤ ss.length ∧ ss.length ≤ 40 ∧ (∃ s r, ss = s :: r ∧ s.ky = true)
def tot (ss : List Smp) : Int := (ss.map Smp.ln).sum
def spName : Sp := fun vs H Q _ => ∃ x : Str, vs = [.str x] ∧ NmOk x ∧ ∀ H', Same H H' → Q (.bl true) H'
def spSample : Sp := fun vs H Q _ => ∃ (r : Addr) (s : Smp), vs = [.ref r] ∧ H r = some (.tup (smV s)) ∧ Sok s ∧ Q (.bl true) H
def spSamples : Sp := fun vs H Q _ => ∃ (a : Addr) (ss : List Smp), vs = [.ref a] ∧ TL smV H a ss ∧ SsOk ss ∧ ∀ H', Same H H' → Q (.bl true) H'
def spEditsOf (C : Addr) : Sp := fun vs H Q _ => ∃ (a : Addr) (ps : List Pc), vs = [.ref a] ∧ TL pcV H a ps ∧ (∀ p ∈ ps, Pok p) ∧ ps.length ≤ 100000 ∧ ((dens ps).length : Int) ≤ MAXL ∧
  ∀ H' y, Same H H' → EdAt C H' y (dens ps) → Q (.ref y) H'
def spStays (C : Addr) : Sp := fun vs H Q _ => ∃ (e : Addr) (L : Mo) (n : Int), vs = [.ref e, .int n] ∧ EdAt C H e L ∧ (L.length : Int) ≤ MAXL ∧ mm false L ≤ 100000 ∧ (∀ m, some m ∈ L → m < n) ∧ ∀ H', Same H H' → Q (.bl true) H'
theorem small_size {n : Nat} (h : n ≤ 100000) : n < sizeLine := by rw [sizeLine_eq]; omega
theorem all_true {α : Type} (l : List α) : (l.map fun _ => true).all id = true := by
  induction l with
  | nil => rfl
  | cons a l ih => simp
theorem mem_den_last {s l t : Int} (h : 1 ≤ l) : some (s + t * (l - 1)) ∈ den (.pl s l t) := List.mem_of_getLast? (den_pl_last h)
theorem den_sub {ps : List Pc} {p : Pc} (h : p ∈ ps) {m : Option Int} (hm : m ∈ den p) : m ∈ dens ps := by
  unfold dens
  exact List.mem_flatMap.mpr ⟨p, h, hm⟩
theorem den_le {ps : List Pc} {p : Pc} (h : p ∈ ps) : (den p).length ≤ (dens ps).length := by
  obtain ⟨a, b, rfl⟩ := List.append_of_mem h
  rw [dens_app, dens_cons, List.length_append, List.length_append]
  omega
/-! the rules within a comprehension's block: K told -/
theorem ixTK {X : Cx} {K : PySem.W.Frag} (h : X.K = K := by rfl) : IxR X (rIxT K) := h ▸ ix_tup
theorem ixLK {X : Cx} {K : PySem.W.Frag} (h : X.K = K := by rfl) : IxR X (rIxL K) := h ▸ ix_list
theorem pe_fldK {X : Cx} {K : PySem.W.Frag} {e : Expr} {ta : TE} {f : Str} {pos : Pos} (he : PE X e ta) (hb : attributeBase e f X.env (eval e X.env) = eval e X.env) (h : X.K = K := by rfl) : PE X (.Attribute e f pos) (tFld K ta f) := h ▸ pe_fld he hb
section
variable {P : Program} {w : World} {K : PySem.W.Frag} {mg : Str → Option Value} {base : Heap} {CE : Addr}
theorem sc_is_name : FnScope ["value", "letter"] ["value"] (defScope (top 31)) := ⟨rfl, rfl, rfl, by decide +kernel, rfl, by decide +kernel, by decide +kernel⟩
theorem ok_is_name (T : Tx K mg) (D : Has K (dN "is_name" 31)) (g : mg "is_name" = some (.ref (He.fAd K ("is_name", none)))) : OkG P w K mg base 1 "is_name" ["value"] spName := by
  refine okG D g sc_is_name (fun _ _ _ _ _ _ us hl => match us, hl with | [_], _ => rfl) (fun vs H Q E h => ?_) (fun f cdv A outer s H vs Q E hr h => ?_)
  · obtain ⟨x, rfl, _⟩ := h
    rfl
  · obtain ⟨x, rfl, ⟨n1, n2, n3⟩, q⟩ := h
    refine ⟨_, PSs.nox (pss_one (ps_ret (pe_and (pe_callB call_isi (by rfl) T.isinstance (by decide +kernel) (pa_cons (pv 0) (pa_cons (pe_bltn (v := .ty "str") (by rfl) T.str (by decide +kernel) rfl) pa_nil))) (pe_and (pe_chain op_le op_le pe_int (pe_callB call_len (by rfl) T.len PySem.boot_len (pa_cons (pv 0) pa_nil)) (pe_gC rfl (cI T.MAX_NAME))) (pe_one (pe_callB (cr_all rfl) (by rfl) T.all (by decide +kernel) (pa_cons (pe_lc (own := [("letter", 1)]) rfl sc_is_name.nd (pi_str (pv 0)) (blkOk_by (N := ["value", "letter"]) (sc := (defScope (top 31))) (by decide +kernel)) (fun _ _ _ _ _ => (pg_name (i := 1) sc_is_name.nd rfl (Or.inl rfl))) (fun _ _ _ _ _ => pts_nil) (fun _ _ _ _ _ => (pe_cmpR op_in_sign (pv 1) (pe_gC rfl (cS T.LETTERS)) rfl))) pa_nil))))))), ?_⟩
    refine ⟨_, rfl, _, _, _, _, true, rfl, .ty _, .base (.str x), kit_ty (by decide +kernel), _, rfl, ?_⟩
    refine ⟨_, rfl, .str x, x.length, rfl, ⟨big_size (by omega), rfl⟩, _, _, rfl, rfl, _, rfl, ?_⟩
    rw [decide_eq_true (show (1 : Int) ≤ x.length by omega)]
    refine ⟨_, _, rfl, rfl, _, rfl, ?_⟩
    rw [decide_eq_true (show (x.length : Int) ≤ 8 by omega)]
    refine ⟨_, rfl, x, rfl, fun Dd hD => ?_⟩
    have hsz : x.cps.size ≤ 8 := n2
    refine lc_vals walk_str ((List.range x.cps.size).map fun _ => V.bl true) (by simp) hD (small_size (by omega)) (fun _ _ => True.intro) ?_ ?_
    · rintro i y H2 H3 acc hi s2 eD ⟨rfl, c, hc, rfl⟩ N hN
      refine ⟨rfl, _, rfl, c, ABC, rfl, rfl, ?_⟩
      have hm : c ∈ x.cps.toList := Array.mem_toList_iff.mpr (Array.mem_of_getElem? hc)
      rw [decide_eq_true (n3 c hm)]
      exact hN _ _ (by simp [hi]) (Same.refl _)
    · intro H2 s2 eD
      refine ⟨Dd, (List.range x.cps.size).map fun _ => true, rfl, SqL.of (by rw [List.map_map]; exact eD), ?_⟩
      rw [all_true]
      exact q H2 s2
theorem sc_is_sample : FnScope ["value"] ["value"] (defScope (top 32)) := ⟨rfl, rfl, rfl, by decide +kernel, rfl, by decide +kernel, by decide +kernel⟩
theorem isI_ok {i l : Int} (h : l ≤ i) : isI (.int i) l = true := decide_eq_true h
theorem ok_is_sample (T : Tx K mg) (D : Has K (dN "is_sample" 32)) (g : mg "is_sample" = some (.ref (He.fAd K ("is_sample", none)))) (G_is_integer : OkG P w K mg base 1 "is_integer" ["value", "least"] spInt) :
    OkG P w K mg base 2 "is_sample" ["value"] spSample := by
  refine okG D g sc_is_sample (fun _ _ _ _ _ _ us hl => match us, hl with | [_], _ => rfl) (fun vs H Q E h => ?_) (fun f cdv A outer s H vs Q E hr h => ?_)
  · obtain ⟨r, z, rfl, _⟩ := h
    rfl
  · obtain ⟨r, z, rfl, hz, ⟨o1, o2, o3, o4⟩, q⟩ := h
    refine ⟨_, PSs.nox (pss_cons (ps_if (PW.pt (pw_or (pt_not (pt_val (pe_callB call_isi (by rfl) T.isinstance (by decide +kernel) (pa_cons (pv 0) (pa_cons (pe_bltn (v := .ty "tuple") (by rfl) T.tuple (by decide +kernel) rfl) pa_nil))))) (pw_or (pt_cmpR op_ne (pe_callB call_len (by rfl) T.len PySem.boot_len (pa_cons (pv 0) pa_nil)) pe_int (nomark _)) (pw_or1 (pt_not (pt_val (pe_callB call_isi (by rfl) T.isinstance (by decide +kernel) (pa_cons (pe_ix ix_tup (pv 0) pe_int (fun _ _ => rfl)) (pa_cons (pe_bltn (v := .ty "bool") (by rfl) T.bool (by decide +kernel) rfl) pa_nil)))))))))
        (pss_one (ps_ret pe_bl))
        pss_nil)
      (pss_one (ps_ret (pe_and (pe_cG G_is_integer hr rfl passL (pa_cons (pe_ix ix_tup (pv 0) pe_int (fun _ _ => rfl)) (pa_cons pe_int pa_nil))) (pe_and (pe_cmpR op_le (pe_ix ix_tup (pv 0) pe_int (fun _ _ => rfl)) (pe_gC rfl (cI T.MAX_SIZE)) (nomark _)) (pe_and (pe_cG G_is_integer hr rfl passL (pa_cons (pe_ix ix_tup (pv 0) pe_int (fun _ _ => rfl)) (pa_cons pe_int pa_nil))) (pe_one (pe_cmpR op_le (pe_ix ix_tup (pv 0) pe_int (fun _ _ => rfl)) (pe_gC rfl (cI T.MAX_TICKS)) (nomark _))))))))), ?_⟩
    have hT : SqT K H r (smV z) := SqT.of hz
    refine ⟨_, rfl, _, _, _, _, true, rfl, .ty _, .base (.tup hz), kit_ty (by decide +kernel), _, rfl, ?_⟩
    refine ⟨_, rfl, _, 3, rfl, .inr ⟨_, hT, rfl⟩, rfl, _, rfl, ?_⟩
    refine ⟨_, rfl, _, _, _, _, rfl, rfl, hT, at2 rfl, _, _, _, _, true, rfl, .ty _, .base (.bl z.ky), kit_ty (by decide +kernel), _, rfl, ?_⟩
    refine ⟨_, rfl, _, _, _, _, rfl, rfl, hT, at0 rfl, _, _, rfl, .inr (.inr ⟨_, rfl⟩), ?_⟩
    rw [isI_ok o1]
    refine ⟨_, rfl, _, rfl, _, _, _, _, rfl, rfl, hT, at0 rfl, _, _, rfl, rfl, _, rfl, ?_⟩
    rw [decide_eq_true o2]
    refine ⟨_, rfl, _, _, _, _, rfl, rfl, hT, at1 rfl, _, _, rfl, .inr (.inr ⟨_, rfl⟩), ?_⟩
    rw [isI_ok o3]
    refine ⟨_, rfl, _, rfl, _, _, _, _, rfl, rfl, hT, at1 rfl, _, _, rfl, rfl, ?_⟩
    show Q (V.bl (decide (z.ln ≤ 1000000))) H
    rw [decide_eq_true o4]
    exact q
theorem sc_are_samples : FnScope ["value", "sample"] ["value"] (defScope (top 33)) := ⟨rfl, rfl, rfl, by decide +kernel, rfl, by decide +kernel, by decide +kernel⟩
theorem ok_are_samples (T : Tx K mg) (D : Has K (dN "are_samples" 33)) (g : mg "are_samples" = some (.ref (He.fAd K ("are_samples", none)))) (G_is_sample : OkG P w K mg base 2 "is_sample" ["value"] spSample) :
    OkG P w K mg base 3 "are_samples" ["value"] spSamples := by
  refine okG D g sc_are_samples (fun _ _ _ _ _ _ us hl => match us, hl with | [_], _ => rfl) (fun vs H Q E h => ?_) (fun f cdv A outer s H vs Q E hr h => ?_)
  · obtain ⟨a, ss, rfl, _⟩ := h
    rfl
  · obtain ⟨a, ss, rfl, ⟨rs, eL, hR⟩, ⟨o1, o2, o3, s0, sr, rfl, o4⟩, q⟩ := h
    refine ⟨_, PSs.nox (pss_cons (ps_if (PW.pt (pw_or (pt_not (pt_val (pe_callB call_isi (by rfl) T.isinstance (by decide +kernel) (pa_cons (pv 0) (pa_cons (pe_bltn (v := .ty "list") (by rfl) T.list (by decide +kernel) rfl) pa_nil))))) (pw_or1 (pt_not (pt_chain op_le op_le pe_int (pe_callB call_len (by rfl) T.len PySem.boot_len (pa_cons (pv 0) pa_nil)) (pe_gC rfl (cI T.MAX_SAMPLES)))))))
        (pss_one (ps_ret pe_bl))
        pss_nil)
      (pss_one (ps_ret (pe_and (pe_callB (cr_all rfl) (by rfl) T.all (by decide +kernel) (pa_cons (pe_lc (own := [("sample", 1)]) rfl sc_are_samples.nd (pi_list (pv 0)) (blkOk_by (N := ["value", "sample"]) (sc := (defScope (top 33))) (by decide +kernel)) (fun _ _ _ _ _ => (pg_name (i := 1) sc_are_samples.nd rfl (Or.inl rfl))) (fun _ _ _ _ _ => pts_nil) (fun _ _ _ _ _ => (pe_cG G_is_sample hr rfl passL (pa_cons (pv 1) pa_nil)))) pa_nil)) (pe_one (pe_ix ix_tup (pe_ix ix_list (pv 0) pe_int (fun _ _ => rfl)) pe_int (fun _ _ => rfl))))))), ?_⟩
    have hlen := hR.len
    refine ⟨_, rfl, _, _, _, _, true, rfl, .ty _, .base (.lst eL), kit_ty (by decide +kernel), _, rfl, ?_⟩
    refine ⟨_, rfl, _, ((s0 :: sr).length : Nat), rfl, .inl ⟨_, SqL.of eL, by rw [List.length_map, hlen]⟩, _, _, rfl, rfl, _, rfl, ?_⟩
    rw [decide_eq_true (show (1 : Int) ≤ ((s0 :: sr).length : Nat) by omega)]
    refine ⟨_, _, rfl, rfl, _, rfl, ?_⟩
    rw [decide_eq_true (show (((s0 :: sr).length : Nat) : Int) ≤ 40 by omega)]
    refine ⟨_, rfl, a, rfl, ⟨_, SqL.of eL⟩, fun Dd hD => ?_⟩
    refine lc_vals walk_list ((s0 :: sr).map fun _ => V.bl true) (by simp [hlen]) hD (small_size (by simp; omega)) (fun H2 s2 => SqL.of (s2 _ _ eL)) ?_ ?_
    · rintro i y H2 H3 acc hi s2 eD ⟨rfl, ey⟩ N hN
      obtain ⟨r, z, rfl, h1, h2, h3⟩ := tl_get hR ey
      refine ⟨rfl, _, rfl, r, z, rfl, s2 _ _ h3, o1 z (List.mem_of_getElem? h2), ?_⟩
      exact hN _ _ (by rw [List.getElem?_map, h2]; rfl) (Same.refl _)
    · intro H2 s2 eD
      refine ⟨Dd, (s0 :: sr).map fun _ => true, rfl, SqL.of (by rw [List.map_map]; exact eD), ?_⟩
      rw [all_true]
      refine ⟨_, rfl, ?_⟩
      cases hR with
      | cons h1 h2 =>
        rename_i r0 rr
        refine ⟨_, rfl, a, _, _, _, rfl, rfl, SqL.of (s2 _ _ eL), at0 rfl, r0, _, _, _, rfl, rfl, SqT.of (s2 _ _ h1), at2 rfl, ?_⟩
        rw [o4]
        exact q H2 s2
theorem sc_edits_of : FnScope ["pieces"] ["pieces"] (defScope (top 34)) := ⟨rfl, rfl, rfl, by decide +kernel, rfl, by decide +kernel, by decide +kernel⟩
theorem ok_edits_of (D : Has K (dN "edits_of" 34)) (g : mg "edits_of" = some (.ref (He.fAd K ("edits_of", none)))) (G_Edits : OkN P w K mg base 4 CE "Edits" ["self", "pieces"] (spEdInit CE)) :
    OkG P w K mg base 6 "edits_of" ["pieces"] (spEditsOf CE) := by
  refine okG D g sc_edits_of (fun _ _ _ _ _ _ us hl => match us, hl with | [_], _ => rfl) (fun vs H Q E h => ?_) (fun f cdv A outer s H vs Q E hr h => ?_)
  · obtain ⟨a, ps, rfl, _⟩ := h
    rfl
  · obtain ⟨a, ps, rfl, hL, ok, hz, hB, q⟩ := h
    refine ⟨_, PSs.nox (pss_one (ps_try_thru0 (pss_one (ps_ret (pe_nG G_Edits hr rfl passL (pa_cons (pv 0) pa_nil)))))), ?_⟩
    exact ⟨_, rfl, ed_make hL ok hz hB q⟩
theorem sc_stays_in : FnScope ["edits", "length", "piece"] ["edits", "length"] (defScope (top 35)) := ⟨rfl, rfl, rfl, by decide +kernel, rfl, by decide +kernel, by decide +kernel⟩
theorem ok_stays_in (T : Tx K mg) (TE : ClE K mg CE) (D : Has K (dN "stays_in" 35)) (g : mg "stays_in" = some (.ref (He.fAd K ("stays_in", none)))) :
    OkG P w K mg base 1 "stays_in" ["edits", "length"] (spStays CE) := by
  refine okG D g sc_stays_in (fun _ _ _ _ _ _ us hl => match us, hl with | [_, _], _ => rfl) (fun vs H Q E h => ?_) (fun f cdv A outer s H vs Q E hr h => ?_)
  · obtain ⟨e, L, n, rfl, _⟩ := h
    rfl
  · obtain ⟨e, L, n, rfl, ⟨dx, tp, ps, hx, ⟨rs, eT, hR⟩, hC, hd⟩, hB, hm, hst, q⟩ := h
    refine ⟨_, PSs.nox (pss_one (ps_ret (pe_callB (cr_all rfl) (by rfl) T.all (by decide +kernel) (pa_cons (pe_lc (own := [("piece", 2)]) rfl sc_stays_in.nd (pi_tup (pe_fld (pv 0) rfl)) (blkOk_by (N := ["edits", "length", "piece"]) (sc := (defScope (top 35))) (by decide +kernel)) (fun _ _ _ _ _ => (pg_name (i := 2) sc_stays_in.nd rfl (Or.inl rfl))) (fun _ _ _ _ _ => pts_nil) (fun _ _ _ _ _ => (pe_or (pe_cmpR op_eq (pe_ix (ixTK (K := K)) (pv 2) pe_int (fun _ _ => rfl)) pe_str (nomark _)) (pe_one (pe_cmpR op_lt (pe_op op_add (pe_ix (ixTK (K := K)) (pv 2) pe_int (fun _ _ => rfl)) (pe_op op_mul (pe_ix (ixTK (K := K)) (pv 2) pe_int (fun _ _ => rfl)) (pe_op op_sub (pe_ix (ixTK (K := K)) (pv 2) pe_int (fun _ _ => rfl)) pe_int))) (pv 1) (nomark _)))))) pa_nil)))), ?_⟩
    have hl := can_mm hC
    rw [hd] at hl
    have hlen := hR.len
    refine ⟨_, rfl, e, CE, dx, _, _, rfl, hx, TE.cl, TE.nP, edF_p _ _, tp, rfl, ⟨_, SqT.of eT⟩, fun Dd hD => ?_⟩
    refine lc_vals walk_tup (ps.map fun _ => V.bl true) (by simp [hlen]) hD (small_size (by simp; omega)) (fun H2 s2 => SqT.of (s2 _ _ eT)) ?_ ?_
    · rintro i y H2 H3 acc hi s2 eD ⟨rfl, ey⟩ N hN
      obtain ⟨r, p, rfl, h1, h2, h3⟩ := tl_get hR ey
      have hmem : p ∈ ps := List.mem_of_getElem? h2
      have hT : SqT K H3 r (pcV p) := SqT.of (s2 _ _ h3)
      have fin := hN (.bl true) H3 (by rw [List.getElem?_map, h2]; rfl) (Same.refl _)
      refine ⟨rfl, _, rfl, r, _, _, _, rfl, rfl, hT, at0 (head_eq p), rfl, _, rfl, ?_⟩
      cases p with
      | no m =>
        rw [dec_nn]
        exact fin
      | pl s l t =>
        rw [dec_pn]
        have hl1 : 1 ≤ l := (hC.ok _ hmem).2.1
        have hl2 : (l : Int) ≤ MAXL := by
          have h5 := den_lenI (hC.ok _ hmem)
          have h6 := den_le hmem
          rw [hd] at h6
          have : plen (.pl s l t) = l := rfl
          omega
        refine ⟨_, rfl, r, _, _, _, rfl, rfl, hT, at1 rfl, _, rfl, r, _, _, _, rfl, rfl, hT, at3 rfl, _, rfl, r, _, _, _, rfl, rfl, hT, at2 rfl, _, _, rfl, rfl, _, _, rfl, rfl, .inr ⟨by omega, by have : MAXL = 1000000000 := rfl; omega⟩, _, _, rfl, rfl, _, rfl, _, _, rfl, rfl, ?_⟩
        have hlt := hst _ (by rw [← hd]; exact den_sub hmem (mem_den_last (s := s) (t := t) hl1))
        show N (V.bl (decide (s + t * (l - 1) < n))) H3
        rw [decide_eq_true hlt]
        exact fin
    · intro H2 s2 eD
      refine ⟨Dd, ps.map fun _ => true, rfl, SqL.of (by rw [List.map_map]; exact eD), ?_⟩
      rw [all_true]
      exact q H2 s2
end
end K24

/-! part D10 -/
set_option Elab.async false
set_option linter.all false
set_option maxRecDepth 100000
set_option maxHeartbeats 4000000
namespace K24
open PySem PySem.Spec PyProof.Rows L2
/-- all but lists is kept -/
def SameN (H H' : Hp) : Prop := ∀ b o, H b = some o → (∀ xs, o ≠ .lst xs) → H' b = some o
theorem SameN.of {H H' : Hp} (s : Same H H') : SameN H H' := fun b o e _ => s b o e
theorem SameF.n {H H' : Hp} (s : SameF H H') : SameN H H' := fun b o e n => s b o e fun ⟨_, _, z⟩ => n _ z
theorem SameN.trans {H H1 H2 : Hp} (a : SameN H H1) (b : SameN H1 H2) : SameN H H2 := fun c o e n => b c o (a c o e n) n
theorem SameN.tup {H H' : Hp} (s : SameN H H') {a : Addr} {xs : List V} (h : H a = some (.tup xs)) : H' a = some (.tup xs) := s a _ h (fun _ e => by cases e)
theorem SameN.ins {H H' : Hp} (s : SameN H H') {a C dx : Addr} {fs : List (Str × V)} (h : H a = some (.ins C dx fs)) : H' a = some (.ins C dx fs) := s a _ h (fun _ e => by cases e)
theorem SameN.dK {H H' : Hp} (s : SameN H H') {a : Addr} {kvs : List (Key × V)} (h : H a = some (.dK kvs)) : H' a = some (.dK kvs) := s a _ h (fun _ e => by cases e)
theorem SameN.lst {H : Hp} {a : Addr} {xs ys : List V} (h : H a = some (.lst xs)) : SameN H (upd H a (.lst ys)) := fun b o e n => by
  rw [upd_ne]
  · exact e
  · intro z
    subst z
    rw [h] at e
    exact n _ (Option.some.inj e).symm
theorem Tp.keepN {α : Type} {f : α → List V} {H H' : Hp} {rs : List Addr} {xs : List α} (h : Tp f H rs xs) (s : SameN H H') : Tp f H' rs xs := Paired.mapP h fun _ _ z => s.tup z
theorem TT.keepN {α : Type} {f : α → List V} {H H' : Hp} {a : Addr} {xs : List α} (h : TT f H a xs) (s : SameN H H') : TT f H' a xs := by
  obtain ⟨rs, h1, h2⟩ := h
  exact ⟨rs, s.tup h1, Tp.keepN (f := f) h2 s⟩
theorem EdAt.keepN {C : Addr} {H H' : Hp} {x : Addr} {L : Mo} (h : EdAt C H x L) (s : SameN H H') : EdAt C H' x L := by
  obtain ⟨dx, tp, ps, h1, h2, h3, h4⟩ := h
  exact ⟨dx, tp, ps, s.ins h1, h2.keepN s, h3, h4⟩
/-! ### lanes -/
structure Ln where
  nm : Str
  ss : List Smp
  ps : List Pc
def LaneAt (H : Hp) (r : Addr) (l : Ln) : Prop := ∃ sa pa, H r = some (.tup [.str l.nm, .ref sa, .ref pa]) ∧ TL smV H sa l.ss ∧ TL pcV H pa l.ps
theorem LaneAt.keep {H H' : Hp} {r : Addr} {l : Ln} (h : LaneAt H r l) (s : SameF H H') : LaneAt H' r l := by
  obtain ⟨sa, pa, h1, h2, h3⟩ := h
  exact ⟨sa, pa, s.tup h1, h2.keep s, h3.keep s⟩
def LanesAt (H : Hp) (a : Addr) (ls : List Ln) : Prop := ∃ rs, H a = some (.lst (rs.map V.ref)) ∧ Paired (LaneAt H) rs ls
theorem LanesAt.keep {H H' : Hp} {a : Addr} {ls : List Ln} (h : LanesAt H a ls) (s : SameF H H') : LanesAt H' a ls := by
  obtain ⟨rs, h1, h2⟩ := h
  exact ⟨rs, s.refs h1, Paired.mapP h2 fun _ _ z => z.keep s⟩
structure LnOk (l : Ln) (n : Nat) : Prop where
  nm : NmOk l.nm
  ss : SsOk l.ss
  ps : ∀ p ∈ l.ps, Pok p
  few : l.ps.length ≤ 100000
  len : (dens l.ps).length = n
  big : (n : Int) ≤ MAXL
  inn : ∀ m, some m ∈ dens l.ps → m < tot l.ss
  mmk : mm false (dens l.ps) ≤ 100000
structure LsOk (ls : List Ln) (n : Nat) : Prop where
  all : ∀ l ∈ ls, LnOk l n
  one : 1 ≤ ls.length
  four : ls.length ≤ 4
  nd : (ls.map Ln.nm).Nodup
def spLane (C : Addr) : Sp := fun vs H Q _ => ∃ (r nl : Addr) (l : Ln) (xs : List Str) (n : Nat), vs = [.ref r, .ref nl] ∧ LaneAt H r l ∧ H nl = some (.lst (xs.map V.str)) ∧ l.nm ∉ xs ∧ LnOk l n ∧
  ∀ H' y, Same H H' → EdAt C H' y (dens l.ps) → Q (.ref y) H'
def spLanes (C : Addr) : Sp := fun vs H Q _ => ∃ (a : Addr) (ls : List Ln) (n : Nat), vs = [.ref a] ∧ LanesAt H a ls ∧ LsOk ls n ∧
  ∀ H' b es, Same H H' → H' b = some (.lst (es.map V.ref)) → Paired (fun e l => EdAt C H' e (dens l.ps)) es ls → Q (.ref b) H'
theorem inV_not {x : Str} {xs : List Str} (h : x ∉ xs) : inV (.str x) (xs.map V.str) = false := by
  unfold inV
  rw [List.any_eq_false]
  intro v hv
  obtain ⟨y, hy, rfl⟩ := List.mem_map.mp hv
  intro e
  have e : (y == x) = true := e
  exact h (eq_of_beq e ▸ hy)
theorem flat_strs (xs : List Str) : (xs.map V.str).all flatV = true := by
  rw [List.all_eq_true]
  intro v hv
  obtain ⟨y, _, rfl⟩ := List.mem_map.mp hv
  rfl
section
variable {P : Program} {w : World} {K : PySem.W.Frag} {mg : Str → Option Value} {base : Heap} {CE : Addr}
theorem sc_read_lane : FnScope ["value", "names", "edits", "sample"] ["value", "names"] (defScope (top 36)) := ⟨rfl, rfl, rfl, by decide +kernel, rfl, by decide +kernel, by decide +kernel⟩
theorem ok_read_lane (T : Tx K mg) (D : Has K (dN "read_lane" 36)) (g : mg "read_lane" = some (.ref (He.fAd K ("read_lane", none)))) (G_is_name : OkG P w K mg base 1 "is_name" ["value"] spName)
    (G_are_samples : OkG P w K mg base 3 "are_samples" ["value"] spSamples) (G_edits_of : OkG P w K mg base 6 "edits_of" ["pieces"] (spEditsOf CE)) (G_stays_in : OkG P w K mg base 1 "stays_in" ["edits", "length"] (spStays CE)) :
    OkG P w K mg base 7 "read_lane" ["value", "names"] (spLane CE) := by
  refine okG D g sc_read_lane (fun _ _ _ _ _ _ us hl => match us, hl with | [_, _], _ => rfl) (fun vs H Q E h => ?_) (fun f cdv A outer s H vs Q E hr h => ?_)
  · obtain ⟨r, nl, l, xs, n, rfl, _⟩ := h
    rfl
  · obtain ⟨r, nl, l, xs, n, rfl, ⟨sa, pa, hl, hs, hp⟩, hn, hx, ok, q⟩ := h
    refine ⟨_, PSs.nox (pss_cons (ps_if (PW.pt (pw_or (pt_not (pt_val (pe_callB call_isi (by rfl) T.isinstance (by decide +kernel) (pa_cons (pv 0) (pa_cons (pe_bltn (v := .ty "tuple") (by rfl) T.tuple (by decide +kernel) rfl) pa_nil))))) (pw_or (pt_cmpR op_ne (pe_callB call_len (by rfl) T.len PySem.boot_len (pa_cons (pv 0) pa_nil)) pe_int (nomark _)) (pw_or (pt_not (pt_val (pe_cG G_is_name (hr.mono (by decide)) rfl passL (pa_cons (pe_ix ix_tup (pv 0) pe_int (fun _ _ => rfl)) pa_nil)))) (pw_or1 (pt_cmpR op_in_seq (pe_ix ix_tup (pv 0) pe_int (fun _ _ => rfl)) (pv 1) rfl))))))
        (pss_one (ps_ret pe_non))
        pss_nil)
      (pss_cons (ps_if (pt_not (pt_val (pe_cG G_are_samples (hr.mono (by decide)) rfl passL (pa_cons (pe_ix ix_tup (pv 0) pe_int (fun _ _ => rfl)) pa_nil))))
        (pss_one (ps_ret pe_non))
        pss_nil)
      (pss_cons (ps_set (i := 2) sc_read_lane.nd rfl (Or.inl rfl) (pe_cG G_edits_of (hr.mono (by decide)) rfl passL (pa_cons (pe_ix ix_tup (pv 0) pe_int (fun _ _ => rfl)) pa_nil)))
      (pss_cons (ps_if (PW.pt (pw_or (pt_cmpR op_isN (pv 2) pe_non (nomark _)) (pw_or1 (pt_not (pt_val (pe_cG G_stays_in (hr.mono (by decide)) rfl passL (pa_cons (pv 2) (pa_cons (pe_callB (cr_sum rfl) (by rfl) T.sum (by decide +kernel) (pa_cons (pe_lc (own := [("sample", 3)]) rfl sc_read_lane.nd (pi_list (pe_ix ix_tup (pv 0) pe_int (fun _ _ => rfl))) (blkOk_by (N := ["value", "names", "edits", "sample"]) (sc := (defScope (top 36))) (by decide +kernel)) (fun _ _ _ _ _ => (pg_name (i := 3) sc_read_lane.nd rfl (Or.inl rfl))) (fun _ _ _ _ _ => pts_nil) (fun _ _ _ _ _ => (pe_ix (ixTK (K := K)) (pv 3) pe_int (fun _ _ => rfl)))) pa_nil)) pa_nil))))))))
        (pss_one (ps_ret pe_non))
        pss_nil)
      (pss_one (ps_ret (pv 2))))))), ?_⟩
    have hT : SqT K H r [.str l.nm, .ref sa, .ref pa] := SqT.of hl
    refine ⟨_, rfl, _, _, _, _, true, rfl, .ty _, .base (.tup hl), kit_ty (by decide +kernel), _, rfl, ?_⟩
    refine ⟨_, rfl, _, 3, rfl, .inr ⟨_, hT, rfl⟩, rfl, _, rfl, ?_⟩
    refine ⟨_, rfl, _, _, _, _, rfl, rfl, hT, at0 rfl, l.nm, rfl, ok.nm, fun H1 s1 => ⟨_, rfl, ?_⟩⟩
    have hT1 : SqT K H1 r [.str l.nm, .ref sa, .ref pa] := SqT.of (s1 _ _ hl)
    refine ⟨_, rfl, _, _, _, _, rfl, rfl, hT1, at0 rfl, _, rfl, nl, xs.map V.str, rfl, .inl (SqL.of (s1 _ _ hn)), rfl, flat_strs xs, _, rfl, ?_⟩
    show if inV (.str l.nm) (xs.map V.str) = true then _ else _
    rw [inV_not hx]
    -- are_samples(value[1])
    refine ⟨_, rfl, _, _, _, _, rfl, rfl, hT1, at1 rfl, sa, l.ss, rfl, hs.keep (.of s1), ok.ss, fun H2 s2 => ⟨_, rfl, ?_⟩⟩
    have s12 := s1.trans s2
    have hT2 : SqT K H2 r [.str l.nm, .ref sa, .ref pa] := SqT.of (s12 _ _ hl)
    refine ⟨_, rfl, _, _, _, _, rfl, rfl, hT2, at2 rfl, pa, l.ps, rfl, hp.keep (.of s12), ok.ps, ok.few, by rw [ok.len]; exact ok.big, fun H3 y s3 hy => ?_⟩
    have s13 := s12.trans s3
    refine ⟨_, rfl, rfl, _, rfl, ?_⟩
    obtain ⟨rs, es, hR⟩ := hs
    have hT3 : SqT K H3 r [.str l.nm, .ref sa, .ref pa] := SqT.of (s13 _ _ hl)
    refine ⟨_, rfl, _, rfl, _, _, _, _, rfl, rfl, hT3, at1 rfl, sa, rfl, ⟨_, SqL.of (s13 _ _ es)⟩, fun Dd hD => ?_⟩
    refine lc_vals walk_list ((l.ss.map Smp.ln).map V.int) (by simp [hR.len]) hD (small_size (by have := ok.ss.2.2.1; have := hR.len; simp; omega)) (fun H4 s4 => SqL.of (s4 _ _ (s13 _ _ es))) ?_ ?_
    · rintro i z H4 H5 acc hi s4 eD ⟨rfl, ey⟩ N hN
      obtain ⟨u, sm, rfl, h1, h2, h3⟩ := tl_get hR ey
      refine ⟨rfl, _, rfl, u, _, _, _, rfl, rfl, SqT.of (s4 _ _ (s13 _ _ h3)), at1 rfl, ?_⟩
      exact hN _ _ (by simp [h2]) (Same.refl _)
    · intro H4 s4 eD
      refine ⟨Dd, l.ss.map Smp.ln, rfl, SqL.of eD, y, dens l.ps, (l.ss.map Smp.ln).sum, rfl, hy.keep (.of s4), by rw [ok.len]; exact ok.big, ok.mmk, ok.inn, fun H5 s5 => ⟨_, rfl, ?_⟩⟩
      exact ⟨_, rfl, q H5 y ((s13.trans s4).trans s5) (hy.keep (.of (s4.trans s5)))⟩
theorem sc_read_lanes : FnScope ["value", "found", "names", "index", "lane", "edits"] ["value"] (defScope (top 37)) := ⟨rfl, rfl, rfl, by decide +kernel, rfl, by decide +kernel, by decide +kernel⟩
theorem ok_read_lanes (T : Tx K mg) (TE : ClE K mg CE) (D : Has K (dN "read_lanes" 37)) (g : mg "read_lanes" = some (.ref (He.fAd K ("read_lanes", none)))) (G_read_lane : OkG P w K mg base 7 "read_lane" ["value", "names"] (spLane CE)) :
    OkG P w K mg base 8 "read_lanes" ["value"] (spLanes CE) := by
  refine okG D g sc_read_lanes (fun _ _ _ _ _ _ us hl => match us, hl with | [_], _ => rfl) (fun vs H Q E h => ?_) (fun f cdv A outer s H vs Q E hr h => ?_)
  · obtain ⟨a, ls, n, rfl, _⟩ := h
    rfl
  · obtain ⟨a, ls, n, rfl, ⟨rs, eL, hR⟩, ok, q⟩ := h
    refine ⟨_, PSs.nox (pss_cons (ps_if (PW.pt (pw_or (pt_not (pt_val (pe_callB call_isi (by rfl) T.isinstance (by decide +kernel) (pa_cons (pv 0) (pa_cons (pe_bltn (v := .ty "list") (by rfl) T.list (by decide +kernel) rfl) pa_nil))))) (pw_or1 (pt_not (pt_chain op_le op_le pe_int (pe_callB call_len (by rfl) T.len PySem.boot_len (pa_cons (pv 0) pa_nil)) (pe_gC rfl (cI T.MAX_LANES)))))))
        (pss_one ps_never)
        pss_nil)
      (pss_cons (ps_par (i := 1) (j := 2) rfl sc_read_lanes.nd rfl rfl (by decide) rfl rfl (pa_cons (pe_lst pa_nil) (pa_cons (pe_lst pa_nil) pa_nil)) (by rfl))
      (pss_cons (ps_for PassesOwn.never rfl (pi_enum (by rfl) T.enumerate (pa_cons (pv 0) pa_nil)) (pg_tup rfl (pgs_cons (pg_name (i := 3) sc_read_lanes.nd rfl (Or.inl rfl)) (pgs_cons (pg_name (i := 4) sc_read_lanes.nd rfl (Or.inl rfl)) pgs_nil)))
        (pss_cons (ps_set (i := 5) sc_read_lanes.nd rfl (Or.inl rfl) (pe_cG G_read_lane hr rfl passL (pa_cons (pv 4) (pa_cons (pv 2) pa_nil))))
          (pss_cons (ps_if (PW.pt (pw_or (pt_cmpR op_isN (pv 5) pe_non (nomark _)) (pw_or1 (PW.pt (pw_and (pt_cmpR (op_neNil hr) (pv 1) (pe_lst pa_nil) (nomark _)) (pw_and1 (pt_cmpR op_ne (pe_fld (pv 5) rfl) (pe_fld (pe_ix ix_list (pv 1) pe_int (fun _ _ => rfl)) rfl) (nomark _))))))))
            (pss_one ps_never)
            pss_nil)
          (pss_cons (ps_expr (pe_bm PySem.F.plainAttrs_list PySem.F.slot_list_append PySem.F.type_list_append mt_append (pv 1) (pa_cons (pv 5) pa_nil)))
          (pss_one (ps_expr (pe_bm PySem.F.plainAttrs_list PySem.F.slot_list_append PySem.F.type_list_append mt_append (pv 2) (pa_cons (pe_ix ix_tup (pv 4) pe_int (fun _ _ => rfl)) pa_nil))))))))
      (pss_one (ps_ret (pv 1)))))), ?_⟩
    have hlen : rs.length = ls.length := Paired.length hR
    have o1 := ok.one
    have o4 := ok.four
    refine ⟨_, rfl, _, _, _, _, true, rfl, .ty _, .base (.lst eL), kit_ty (by decide +kernel), _, rfl, ?_⟩
    refine ⟨_, rfl, _, (ls.length : Nat), rfl, .inl ⟨_, SqL.of eL, by rw [List.length_map, hlen]⟩, _, _, rfl, rfl, _, rfl, ?_⟩
    rw [decide_eq_true (show (1 : Int) ≤ (ls.length : Nat) by omega)]
    refine ⟨_, _, rfl, rfl, _, rfl, ?_⟩
    rw [decide_eq_true (show ((ls.length : Nat) : Int) ≤ 4 by omega)]
    -- found, names = ([], [])
    refine ⟨Nat.zero_le _, fun fo hfo => ⟨Nat.zero_le _, fun no hno => ⟨_, _, rfl, ?_⟩⟩⟩
    have s1 : Same H (upd H fo (.lst [])) := Same.new hfo
    have s2 : Same H (upd (upd H fo (.lst [])) no (.lst [])) := s1.up hno
    have nfn : fo ≠ no := ne_of_none upd_same hno
    have hno0 : H no = none := s1.free hno
    have keepU : ∀ H1 (o1 o2 : HO), Same H H1 → Same H (upd (upd H1 fo o1) no o2) := fun H1 o1 o2 sm b u e => by
      rw [upd_ne (ne_of_none e hno0), upd_ne (ne_of_none e hfo)]
      exact sm _ _ e
    refine ⟨_, rfl, a, rs.map V.ref, rfl, SqL.of (s2 _ _ eL), for_it walk_enum (fun i σ H1 => ∃ (es : List Addr) (v3 v4 v5 : Option V), σ = [some (.ref a), some (.ref fo), some (.ref no), v3, v4, v5] ∧ Same H H1 ∧ H1 fo = some (.lst (es.map V.ref)) ∧ H1 no = some (.lst (((ls.take i).map Ln.nm).map V.str)) ∧
        Paired (fun e l => EdAt CE H1 e (dens l.ps)) es (ls.take i))
      ⟨[], none, none, none, rfl, s2, by rw [upd_ne nfn]; exact upd_same, upd_same, .nil⟩ (fun i σ H1 _ ⟨_, _, _, _, _, sm, _⟩ => SqL.of (sm _ _ eL)) ?_ ?_⟩
    · rintro i y σ H1 H2 hi ⟨es, v3, v4, v5, rfl, sm, ef, en, hE⟩ ⟨U, u1, u2, rfl, hU, rfl, e1, e2⟩
      have e1 : V.int (i : Nat) = u1 := Option.some.inj e1
      subst e1
      obtain ⟨r, h1, rfl⟩ := map_get e2
      obtain ⟨l, h2, h3⟩ := paired_get hR h1
      have hmem : l ∈ ls := List.mem_of_getElem? h2
      have okl := ok.all l hmem
      have sU := Same.new (o := .tup [.int (i : Nat), .ref r]) hU
      have hni : l.nm ∉ (ls.take i).map Ln.nm := fun hm => by
        have e3 : (ls.map Ln.nm)[i]? = some l.nm := by rw [List.getElem?_map, h2]; rfl
        rw [List.map_take] at hm
        obtain ⟨j, hj, ej⟩ := List.getElem_of_mem hm
        rw [List.getElem_take] at ej
        have hj2 : j < i := by rw [List.length_take] at hj; omega
        have := nd_ix ok.nd (show (ls.map Ln.nm)[j]? = some l.nm by rw [← ej]; exact List.getElem?_eq_getElem _) e3
        omega
      refine ⟨U, _, rfl, SqT.of upd_same, rfl, _, _, rfl, _, _, rfl, rfl, ?_⟩
      refine ⟨_, rfl, _, rfl, r, no, l, (ls.take i).map Ln.nm, n, rfl, h3.keep (.of (sm.trans sU)), sU _ _ en, hni, okl, fun H3 y s3 hy => ?_⟩
      have sU3 := sU.trans s3
      -- edits is None or found != [] and ..
      refine ⟨_, rfl, rfl, _, rfl, ?_⟩
      refine ⟨_, rfl, Nat.zero_le _, fun e he => ⟨fo, e, es.map V.ref, rfl, rfl, (Same.new he) _ _ (sU3 _ _ ef), upd_same, _, rfl, ?_⟩⟩
      have sE : Same H3 (upd H3 e (.lst [])) := Same.new he
      have sall := sU3.trans sE
      have tailG : (upd H3 e (.lst [])) fo = some (.lst (es.map V.ref)) ∧ (upd H3 e (.lst [])) no = some (.lst (((ls.take i).map Ln.nm).map V.str)) := ⟨sall _ _ ef, sall _ _ en⟩
      have hlE : es.length = (ls.take i).length := Paired.length hE
      have hli : (ls.take i).length ≤ 4 := by rw [List.length_take]; omega
      have goApp : ∃ (es' : List Addr) (v3 v4 v5 : Option V), ([some (.ref a), some (.ref fo), some (.ref no), some (.int (i : Nat)), some (.ref r), some (.ref y)] : L2.St) = [some (.ref a), some (.ref fo), some (.ref no), v3, v4, v5] ∧
          Same H (upd (upd (upd H3 e (.lst [])) fo (.lst (es.map V.ref ++ [.ref y]))) no (.lst (((ls.take i).map Ln.nm).map V.str ++ [.str l.nm]))) ∧
          (upd (upd (upd H3 e (.lst [])) fo (.lst (es.map V.ref ++ [.ref y]))) no (.lst (((ls.take i).map Ln.nm).map V.str ++ [.str l.nm]))) fo = some (.lst (es'.map V.ref)) ∧
          (upd (upd (upd H3 e (.lst [])) fo (.lst (es.map V.ref ++ [.ref y]))) no (.lst (((ls.take i).map Ln.nm).map V.str ++ [.str l.nm]))) no = some (.lst (((ls.take (i + 1)).map Ln.nm).map V.str)) ∧
          Paired (fun d l' => EdAt CE (upd (upd (upd H3 e (.lst [])) fo (.lst (es.map V.ref ++ [.ref y]))) no (.lst (((ls.take i).map Ln.nm).map V.str ++ [.str l.nm]))) d (dens l'.ps)) es' (ls.take (i + 1)) := by
        have sn1 := SameN.lst (ys := es.map V.ref ++ [.ref y]) tailG.1
        have sn2 : SameN (upd (upd H3 e (.lst [])) fo (.lst (es.map V.ref ++ [.ref y]))) (upd (upd (upd H3 e (.lst [])) fo (.lst (es.map V.ref ++ [.ref y]))) no (.lst (((ls.take i).map Ln.nm).map V.str ++ [.str l.nm]))) :=
          SameN.lst (xs := ((ls.take i).map Ln.nm).map V.str) (by rw [upd_ne (Ne.symm nfn)]; exact tailG.2)
        refine ⟨es ++ [y], _, _, _, rfl, keepU _ _ _ (sm.trans sall), ?_, ?_, ?_⟩
        · rw [upd_ne nfn, upd_same, List.map_append]
          rfl
        · rw [upd_same, take_more h2, List.map_append, List.map_append]
          rfl
        · rw [take_more h2]
          exact paired_append (Paired.mapP hE fun d l' z => ((z.keep (.of sall)).keepN sn1).keepN sn2) (.cons (((hy.keep (.of sE)).keepN sn1).keepN sn2) .nil)
      obtain ⟨sa, pa, e9, _, _⟩ := id h3
      have e10 : (upd H3 e (.lst [])) r = some (.tup [.str l.nm, .ref sa, .ref pa]) := sall _ _ (sm _ _ e9)
      have nrf : r ≠ fo := ne_of e10 tailG.1 (by intro z; cases z)
      have tn : upd (upd H3 e (.lst [])) fo (.lst (es.map V.ref ++ [.ref y])) no = some (.lst (((ls.take i).map Ln.nm).map V.str)) := by rw [upd_ne (Ne.symm nfn)]; exact tailG.2
      have tr : SqT K (upd (upd H3 e (.lst [])) fo (.lst (es.map V.ref ++ [.ref y]))) r [.str l.nm, .ref sa, .ref pa] := SqT.of (by rw [upd_ne nrf]; exact e10)
      have fin : ∀ D0 : Ends, (∀ σ' H', (∃ (es' : List Addr) (v3 v4 v5 : Option V), σ' = [some (.ref a), some (.ref fo), some (.ref no), v3, v4, v5] ∧ Same H H' ∧ H' fo = some (.lst (es'.map V.ref)) ∧ H' no = some (.lst (((ls.take (i + 1)).map Ln.nm).map V.str)) ∧
          Paired (fun e l => EdAt CE H' e (dens l.ps)) es' (ls.take (i + 1))) → D0.nx σ' H') → D0.nx [some (.ref a), some (.ref fo), some (.ref no), some (.int (i : Nat)), some (.ref r), some (.ref y)] (upd (upd (upd H3 e (.lst [])) fo (.lst (es.map V.ref ++ [.ref y]))) no (.lst (((ls.take i).map Ln.nm).map V.str ++ [.str l.nm]))) := fun D0 k => k _ _ goApp
      have hs1 : (es.map V.ref).length < sizeLine := small_size (by rw [List.length_map]; omega)
      have hs2 : (((ls.take i).map Ln.nm).map V.str).length < sizeLine := small_size (by rw [List.length_map, List.length_map]; omega)
      rcases es with _ | ⟨e0, er⟩
      · refine ⟨_, rfl, .inl ⟨rfl, _, SqL.of tailG.1⟩, _, rfl, fo, _, _, rfl, rfl, tailG.1, hs1, ?_⟩
        refine ⟨_, rfl, .inl ⟨rfl, _, SqL.of tn⟩, _, rfl, r, _, _, _, rfl, rfl, tr, at0 rfl, no, _, _, rfl, rfl, tn, hs2, goApp⟩
      · obtain ⟨l0, hE0, hE1⟩ := paired_get (i := 0) hE rfl
        have okl0 := ok.all l0 (List.mem_of_mem_take (List.mem_of_getElem? hE0))
        obtain ⟨dy, ty, py, hy1, _⟩ := hy.keep (.of sE)
        obtain ⟨d0, t0, p0, h01, _⟩ := hE1.keep (.of sall)
        refine ⟨_, rfl, y, CE, dy, _, _, rfl, hy1, TE.cl, TE.nL, edF_l _ _, _, rfl, fo, _, _, _, rfl, rfl, SqL.of tailG.1, at0 rfl, e0, CE, d0, _, _, rfl, h01, TE.cl, TE.nL, edF_l _ _, rfl, _, rfl, ?_⟩
        rw [okl.len, okl0.len, decide_eq_true (show V.int (n : Nat) = V.int (n : Nat) from rfl)]
        refine ⟨_, rfl, .inl ⟨rfl, _, SqL.of tailG.1⟩, _, rfl, fo, _, _, rfl, rfl, tailG.1, hs1, ?_⟩
        refine ⟨_, rfl, .inl ⟨rfl, _, SqL.of tn⟩, _, rfl, r, _, _, _, rfl, rfl, tr, at0 rfl, no, _, _, rfl, rfl, tn, hs2, goApp⟩
    · rintro σ H1 ⟨es, v3, v4, v5, rfl, sm, ef, en, hE⟩
      rw [List.length_map] at hE
      rw [List.take_of_length_le (by omega)] at hE
      exact ⟨_, rfl, q H1 fo es sm ef hE⟩
end
end K24

/-! part DZ -/
set_option Elab.async false
set_option linter.all false
set_option maxRecDepth 100000
set_option maxHeartbeats 4000000
/-! dict(zip(xs, ys)) of a tuple and a list -/
namespace KZ
open PySem PySem.Spec PyProof.Rows L2
open Sem (wp)
section
variable {prog : Program} {w : World} {A : Around} {E : Value → Shared → Prop} {s : Shared} {z TI TO T i1 i2 : Addr} {fp1 fp2 : List Addr} {n1 n2 i : Nat} {P1 P2 : Nat → Value → Prop} {St1 St2 : Nat → Heap → Prop} {f : Bool} {oT : Obj}
/-- one turn of a zip whose tuple is out -/
theorem held_item {Q : Value → Shared → Prop} (S : ZipSep2 z TI TO i1 i2 fp1 fp2) (D1 : Draws prog w A i1 fp1 n1 P1 St1) (D2 : Draws prog w A i2 fp2 n2 P2 St2)
    (hz : IsZipHeld s.heap z TI TO T f) (hT : s.heap.get? T = some oT) (hTI : IsTupOf2 s.heap TI (.ref i1) (.ref i2)) (st1 : St1 i s.heap) (st2 : St2 i s.heap) (hlt1 : i < n1) (hlt2 : i < n2)
    (hQ : ∀ x1 x2 h' tk, P1 i x1 → P2 i x2 → IsZipHeld h' z TI TO T true → St1 (i + 1) h' → St2 (i + 1) h' → IsTupOf2 h' s.heap.objs.size x1 x2 → h'.objs.size = s.heap.objs.size + 1 →
      (∀ c o, c ≠ z → c ≠ i1 → c ≠ i2 → s.heap.get? c = some o → h'.get? c = some o) → Q (.ref s.heap.objs.size) { s with heap := h', toks := tk }) :
    wpAny (model prog w) A (Builtin.«zip.__next__» ⟨[.ref z], []⟩) (fun fin s' => ∃ v, fin = .done (.ret v) ∧ Q v s') E s := by
  obtain ⟨hp, g, d, tk0, os⟩ := s
  show wpAny _ _ (field (.ref z) 2 >>= _) _ _ _
  refine wpAny_bind (wpAny_field hz rfl (x := .bool false) rfl ?_)
  show wpAny _ _ (field (.ref z) 3 >>= _) _ _ _
  refine wpAny_bind (wpAny_field hz rfl (x := .ref TI) rfl ?_)
  refine wpAny_bind (wpAny_seqItems hTI rfl ?_)
  show wpAny _ _ (Builtin.SmallTypes.ownedTupleIsFree (.ref z) >>= _) _ _ _
  refine wpAny_bind (wpAny_tupleHeld_zip hz hT fun g0 hz0 hs0 => ?_)
  replace hs0 : Heap.SameBut z hp g0 := hs0
  simp only [Bool.false_eq_true, if_false]
  refine wpAny_bind ?_
  rw [← Array.forIn_toList]
  simp only [List.forIn_cons, List.forIn_nil]
  refine wpAny_bind (wpAny_bind (wpAny_holding ?_))
  show wpAny _ _ (Builtin.SmallTypes.nextOf (.ref i1) >>= _) _ _ ⟨g0, g, d, tk0, os⟩
  refine wpAny_bind (D1.item i _ _ _ hlt1 (D1.over st1 hs0 S.zf1) fun x1 p1 tk1 hx1 sn1 hp1 => wpAny_pure ?_)
  replace hp1 : Heap.SameBut i1 g0 p1 := hp1
  refine wpAny_pure ?_
  refine wpAny_bind (wpAny_bind (wpAny_holding ?_))
  show wpAny _ _ (Builtin.SmallTypes.nextOf (.ref i2) >>= _) _ _ ⟨p1, g, d, tk1, os⟩
  refine wpAny_bind (D2.item i _ _ _ hlt2 (D2.over (D2.over st2 hs0 S.zf2) hp1 S.sep1_2) fun x2 p2 tk2 hx2 sn2 hp2 => wpAny_pure ?_)
  replace hp2 : Heap.SameBut i2 p1 p2 := hp2
  refine wpAny_pure (wpAny_pure ?_)
  show wpAny _ _ (newTuple [x1, x2] >>= _) _ _ ⟨p2, g, d, tk2, os⟩
  refine wpAny_bind (wpAny_newTuple ?_)
  have hsz : p2.objs.size = hp.objs.size := by rw [hp2.1, hp1.1, hs0.1]
  have hz3 : IsZipHeld p2 z TI TO T true := hp2.extBut _ _ S.zi2 (hp1.extBut _ _ S.zi1 hz0)
  have hk : ∀ c o, c ≠ z → c ≠ i1 → c ≠ i2 → hp.get? c = some o → p2.get? c = some o := fun c o c1 c2 c3 e => hp2.extBut _ _ c3 (hp1.extBut _ _ c2 (hs0.extBut _ _ c1 e))
  have up : ∀ b o, p2.get? b = some o → (p2.push { cls := .type "tuple", data := .seq #[x1, x2] }).get? b = some o := fun b o e => Heap.get?_push_of_some _ e
  refine wpAny_pure ⟨_, rfl, ?_⟩
  show Q (.ref p2.objs.size) ⟨p2.push { cls := .type "tuple", data := .seq #[x1, x2] }, g, d, tk2, os⟩
  have hq : IsTupOf2 (p2.push { cls := .type "tuple", data := .seq #[x1, x2] }) p2.objs.size x1 x2 := Heap.get?_push_size _ rfl
  have hz4 : (p2.push { cls := .type "tuple", data := .seq #[x1, x2] }).objs.size = p2.objs.size + 1 := Heap.size_push ..
  rw [hsz] at hq hz4 ⊢
  exact hQ x1 x2 _ tk2 hx1 hx2 (up _ _ hz3) (D1.frame _ _ _ (D1.over sn1 hp2 S.sep2_1) fun b _ o e => up b o e) (D2.frame _ _ _ sn2 fun b _ o e => up b o e) hq hz4 fun c o c1 c2 c3 e => up _ _ (hk c o c1 c2 c3 e)
theorem held_end {Q : Fin → Shared → Prop} (S : ZipSep2 z TI TO i1 i2 fp1 fp2) (D1 : Draws prog w A i1 fp1 n1 P1 St1) (D2 : Draws prog w A i2 fp2 n2 P2 St2)
    (hz : IsZipHeld s.heap z TI TO T f) (hT : s.heap.get? T = some oT) (hTI : IsTupOf2 s.heap TI (.ref i1) (.ref i2)) (st1 : St1 i s.heap) (st2 : St2 i s.heap) (hle1 : i ≤ n1) (hle2 : i ≤ n2) (hend : i = n1 ∨ i = n2)
    (hE : ∀ h' tk e, (∀ c o, c ≠ z → c ≠ i1 → c ≠ i2 → s.heap.get? c = some o → h'.get? c = some o) → (∃ o, h'.get? e = some o ∧ o.cls = .type "StopIteration") → E (.ref e) { s with heap := h', toks := tk }) :
    wpAny (model prog w) A (Builtin.«zip.__next__» ⟨[.ref z], []⟩) Q E s := by
  obtain ⟨hp, g, d, tk0, os⟩ := s
  show wpAny _ _ (field (.ref z) 2 >>= _) _ _ _
  refine wpAny_bind (wpAny_field hz rfl (x := .bool false) rfl ?_)
  show wpAny _ _ (field (.ref z) 3 >>= _) _ _ _
  refine wpAny_bind (wpAny_field hz rfl (x := .ref TI) rfl ?_)
  refine wpAny_bind (wpAny_seqItems hTI rfl ?_)
  show wpAny _ _ (Builtin.SmallTypes.ownedTupleIsFree (.ref z) >>= _) _ _ _
  refine wpAny_bind (wpAny_tupleHeld_zip hz hT fun g0 hz0 hs0 => ?_)
  replace hs0 : Heap.SameBut z hp g0 := hs0
  simp only [Bool.false_eq_true, if_false]
  refine wpAny_bind ?_
  rw [← Array.forIn_toList]
  simp only [List.forIn_cons, List.forIn_nil]
  refine wpAny_bind (wpAny_bind (wpAny_holding ?_))
  show wpAny _ _ (Builtin.SmallTypes.nextOf (.ref i1) >>= _) _ _ ⟨g0, g, d, tk0, os⟩
  by_cases hlt1 : i < n1
  · refine wpAny_bind (D1.item i _ _ _ hlt1 (D1.over st1 hs0 S.zf1) fun x1 p1 tk1 hx1 sn1 hp1 => wpAny_pure ?_)
    replace hp1 : Heap.SameBut i1 g0 p1 := hp1
    have hi2 : i = n2 := by omega
    refine wpAny_pure ?_
    refine wpAny_bind (wpAny_bind (wpAny_holding ?_))
    show wpAny _ _ (Builtin.SmallTypes.nextOf (.ref i2) >>= _) _ _ ⟨p1, g, d, tk1, os⟩
    refine wpAny_bind (D2.done ⟨p1, g, d, tk1, os⟩ _ _ (by rw [← hi2]; exact D2.over (D2.over st2 hs0 S.zf2) hp1 S.sep1_2) fun q e hq he => ?_)
    exact hE q tk1 e (fun c o c1 c2 c3 x => hq _ _ c3 (hp1.extBut _ _ c2 (hs0.extBut _ _ c1 x))) he
  · have hi1 : i = n1 := by omega
    refine wpAny_bind (D1.done ⟨g0, g, d, tk0, os⟩ _ _ (by rw [← hi1]; exact D1.over st1 hs0 S.zf1) fun q e hq he => ?_)
    exact hE q tk0 e (fun c o c1 c2 c3 x => hq _ _ c2 (hs0.extBut _ _ c1 x)) he
theorem next_held_item {Q : Option Value → Shared → Prop} (S : ZipSep2 z TI TO i1 i2 fp1 fp2) (D1 : Draws prog w A.in1 i1 fp1 n1 P1 St1) (D2 : Draws prog w A.in1 i2 fp2 n2 P2 St2)
    (hz : IsZipHeld s.heap z TI TO T f) (hT : s.heap.get? T = some oT) (hTI : IsTupOf2 s.heap TI (.ref i1) (.ref i2)) (st1 : St1 i s.heap) (st2 : St2 i s.heap) (hlt1 : i < n1) (hlt2 : i < n2)
    (hQ : ∀ x1 x2 h' tk, P1 i x1 → P2 i x2 → IsZipHeld h' z TI TO T true → St1 (i + 1) h' → St2 (i + 1) h' → IsTupOf2 h' s.heap.objs.size x1 x2 → h'.objs.size = s.heap.objs.size + 1 →
      (∀ c o, c ≠ z → c ≠ i1 → c ≠ i2 → s.heap.get? c = some o → h'.get? c = some o) → Q (some (.ref s.heap.objs.size)) { s with heap := h', toks := tk }) : wpAny (model prog w) A (pyNext (.ref z)) Q E s := by
  have hTy : s.TypeIs (.ref z) "zip" := ⟨_, hz, rfl⟩
  unfold pyNext
  exact wpAny_bind (wpAny_attempt (wpAny_callSpecial?_slot (name := Str.ofString "__next__") hTy F.slot_zip_next
    (wpAny_call_entry F.slot_zip_next hTy F.entry_zip_next
      (held_item S D1 D2 hz hT hTI st1 st2 hlt1 hlt2 fun x1 x2 h' tk y1 y2 b1 b2 b3 b4 b5 b6 => wpAny_pure (hQ x1 x2 h' tk y1 y2 b1 b2 b3 b4 b5 b6)) (F.args_zip_next_1 _))))
theorem next_held_end {Q : Option Value → Shared → Prop} (S : ZipSep2 z TI TO i1 i2 fp1 fp2) (D1 : Draws prog w A.in1 i1 fp1 n1 P1 St1) (D2 : Draws prog w A.in1 i2 fp2 n2 P2 St2)
    (hz : IsZipHeld s.heap z TI TO T f) (hT : s.heap.get? T = some oT) (hTI : IsTupOf2 s.heap TI (.ref i1) (.ref i2)) (st1 : St1 i s.heap) (st2 : St2 i s.heap) (hle1 : i ≤ n1) (hle2 : i ≤ n2) (hend : i = n1 ∨ i = n2)
    (hQ : ∀ h' tk, (∀ c o, c ≠ z → c ≠ i1 → c ≠ i2 → s.heap.get? c = some o → h'.get? c = some o) → Q none { s with heap := h', toks := tk }) : wpAny (model prog w) A (pyNext (.ref z)) Q E s := by
  have hTy : s.TypeIs (.ref z) "zip" := ⟨_, hz, rfl⟩
  unfold pyNext
  refine wpAny_bind (wpAny_attempt (wpAny_callSpecial?_slot (name := Str.ofString "__next__") hTy F.slot_zip_next
    (wpAny_call_entry F.slot_zip_next hTy F.entry_zip_next (held_end S D1 D2 hz hT hTI st1 st2 hle1 hle2 hend fun h' tk e hk he => ?_) (F.args_zip_next_1 _))))
  obtain ⟨o, ho, hc⟩ := he
  refine wpAny_bind (wpAny_isInstance (T := "StopIteration") (b := true) ⟨o, ho, hc⟩ isSubtype_stop ?_)
  exact wpAny_pure (hQ _ _ hk)
end
section
variable {prog : Program} {w : World}
/-- zip of a tuple and a list as the argument of dict -/
theorem arg_zipTL (z TI TO i1 i2 l1 l2 : Addr) (S : ZipSep2 z TI TO i1 i2 [i1, l1] [i2, l2]) (n1 : l1 ≠ i1) (n2 : l2 ≠ i2) (xs ys : Array Value) :
    PairArg prog w "zip" z [z, TI, TO, i1, i2, l1, l2] [z, TO, i1, i2] (min xs.size ys.size) (fun i k v => xs[i]? = some k ∧ ys[i]? = some v)
      (fun h => IsZip h z TI TO .none ∧ IsTupOf2 h TI (.ref i1) (.ref i2) ∧ (∃ a b, IsTupOf2 h TO a b) ∧ h.IsTupleIter i1 l1 0 ∧ h.IsListIter i2 l2 0 ∧ h.IsTuple l1 xs ∧ h.IsList l2 ys) where
  type := fun s ok => ⟨_, ok.1, rfl⟩
  notDict := by decide
  keep := fun h h' ok hk => by
    obtain ⟨hz, hTI, ⟨a, b, hTO⟩, h1, h2, hl1, hl2⟩ := ok
    exact ⟨hk _ _ hz, hk _ _ hTI, ⟨a, b, hk _ _ hTO⟩, h1.at fun o e => hk _ o e, h2.at fun o e => hk _ o e, hl1.at fun o e => hk _ o e, hl2.at fun o e => hk _ o e⟩
  there := fun h ok b hb => by
    obtain ⟨hz, hTI, ⟨a, c, hTO⟩, ⟨o1, h1, _⟩, ⟨o2, h2, _⟩, ⟨o3, hl1, _⟩, ⟨o4, hl2, _⟩⟩ := ok
    simp only [List.mem_cons, List.not_mem_nil, or_false] at hb
    rcases hb with rfl | rfl | rfl | rfl | rfl | rfl | rfl
    all_goals first | exact ⟨_, hz⟩ | exact ⟨_, hTI⟩ | exact ⟨_, hTO⟩ | exact ⟨_, h1⟩ | exact ⟨_, h2⟩ | exact ⟨_, hl1⟩ | exact ⟨_, hl2⟩
  sub := fun b hb => by simp at hb ⊢; rcases hb with rfl | rfl | rfl | rfl <;> simp
  noKeys := fun A s Q E hA ok h => getAttrOr_miss_zip ok.1 rfl rfl rfl zip_no_keys (by decide +kernel) hA h
  iter := fun A s d Q E hA ok hd hdf h => by
    obtain ⟨hz, hTI, ⟨a, b, hTO⟩, h1, h2, hl1, hl2⟩ := ok
    simp only [List.mem_cons, List.not_mem_nil, or_false, not_or] at hdf
    obtain ⟨dz, dTI, dTO, di1, di2, dl1, dl2⟩ := hdf
    have hA1 : A.in1.handled = none := hA
    have D1 : Draws prog w A.in1 i1 [i1, l1] xs.size (fun i v => xs[i]? = some v) (fun i h => h.IsTupleIter i1 l1 i ∧ h.IsTuple l1 xs) := Draws.tuple hA1 i1 l1 n1 xs
    have D2 : Draws prog w A.in1 i2 [i2, l2] ys.size (fun i v => ys[i]? = some v) (fun i h => h.IsListIter i2 l2 i ∧ h.IsList l2 ys) := Draws.list hA1 i2 l2 n2 ys
    refine wpAny_pyIter_zip hz (h z [z, TO, i1, i2] (fun i h => IsTupOf2 h TI (.ref i1) (.ref i2) ∧ (h.IsTupleIter i1 l1 i ∧ h.IsTuple l1 xs) ∧ (h.IsListIter i2 l2 i ∧ h.IsList l2 ys) ∧
      ((IsZip h z TI TO .none ∧ ∃ a b, IsTupOf2 h TO a b) ∨ ∃ T f oT, IsZipHeld h z TI TO T f ∧ h.get? T = some oT ∧ T ≠ z ∧ T ≠ i1 ∧ T ≠ i2 ∧ T ≠ d)) s.heap s.toks ?_
      ⟨hTI, ⟨h1, hl1⟩, ⟨h2, hl2⟩, .inl ⟨hz, a, b, hTO⟩⟩ (fun _ _ e => e) fun b hb => .inl hb)
    exact {
      off := fun hm => by
        simp only [List.mem_cons, List.not_mem_nil, or_false] at hm
        rcases hm with e | e | e | e
        · exact dz e
        · exact dTO e
        · exact di1 e
        · exact di2 e
      frame := fun i h1' h2' st hk => by
        obtain ⟨hTI, ⟨h1, hl1⟩, ⟨h2, hl2⟩, hz⟩ := st
        refine ⟨hk _ _ (Ne.symm dTI) hTI, ⟨h1.at fun o e => hk _ o (Ne.symm di1) e, hl1.at fun o e => hk _ o (Ne.symm dl1) e⟩, ⟨h2.at fun o e => hk _ o (Ne.symm di2) e, hl2.at fun o e => hk _ o (Ne.symm dl2) e⟩, ?_⟩
        rcases hz with ⟨hz, a, b, hTO⟩ | ⟨T, f, oT, hz, hT, r1, r2, r3, r4⟩
        · exact .inl ⟨hk _ _ (Ne.symm dz) hz, a, b, hk _ _ (Ne.symm dTO) hTO⟩
        · exact .inr ⟨T, f, oT, hk _ _ (Ne.symm dz) hz, hk _ _ r4 hT, r1, r2, r3, r4⟩
      item := fun i s₁ Q₁ E₁ hi st hds hQ => by
        obtain ⟨hTI, st1, st2, hz⟩ := st
        have hix : i < xs.size := Nat.lt_of_lt_of_le hi (Nat.min_le_left ..)
        have hiy : i < ys.size := Nat.lt_of_lt_of_le hi (Nat.min_le_right ..)
        have lt : ∀ {c o}, s₁.heap.get? c = some o → s₁.heap.objs.size ≠ c := fun e => Nat.ne_of_gt (Heap.lt_size e)
        have m1 : s₁.heap.objs.size ≠ i1 := let ⟨_, e, _⟩ := st1.1; lt e
        have m2 : s₁.heap.objs.size ≠ i2 := let ⟨_, e, _⟩ := st2.1; lt e
        rcases hz with ⟨hz, a, b, hTO⟩ | ⟨T, f, oT, hz, hT, r1, r2, r3, r4⟩
        · refine wpAny_pyNext_zipD2_item S D1 D2 hz hTI hTO st1 st2 hix hiy fun x1 x2 h' tk ex ey a1 a2 a3 a4 a5 a6 hk => ?_
          exact hQ s₁.heap.objs.size _ _ h' tk ⟨ex, ey⟩ (.inl ⟨_, a5, rfl, _, rfl⟩)
            ⟨hk _ _ S.TIz S.TITO S.TIi1 S.TIi2 hTI, a3, a4, .inr ⟨s₁.heap.objs.size, false, _, a1, a5, lt hz, m1, m2, Nat.ne_of_gt hds⟩⟩
            fun c o hc e => hk c o (fun x => hc (by simp [x])) (fun x => hc (by simp [x])) (fun x => hc (by simp [x])) (fun x => hc (by simp [x])) e
        · refine next_held_item S D1 D2 hz hT hTI st1 st2 hix hiy fun x1 x2 h' tk ex ey a1 a3 a4 a5 a6 hk => ?_
          exact hQ s₁.heap.objs.size _ _ h' tk ⟨ex, ey⟩ (.inl ⟨_, a5, rfl, _, rfl⟩)
            ⟨hk _ _ S.TIz S.TIi1 S.TIi2 hTI, a3, a4, .inr ⟨T, true, oT, a1, hk _ _ r1 r2 r3 hT, r1, r2, r3, r4⟩⟩
            fun c o hc e => hk c o (fun x => hc (by simp [x])) (fun x => hc (by simp [x])) (fun x => hc (by simp [x])) e
      done := fun s₁ Q₁ E₁ st hQ => by
        obtain ⟨hTI, st1, st2, hz⟩ := st
        rcases hz with ⟨hz, a, b, hTO⟩ | ⟨T, f, oT, hz, hT, r1, r2, r3, r4⟩
        · exact wpAny_pyNext_zipD2_end S D1 D2 hz hTI hTO st1 st2 (Nat.min_le_left ..) (Nat.min_le_right ..) (by omega) fun h' tk hk => hQ h' tk fun c o hc e => hk c o (fun x => hc (by simp [x])) (fun x => hc (by simp [x])) (fun x => hc (by simp [x])) (fun x => hc (by simp [x])) e
        · exact next_held_end S D1 D2 hz hT hTI st1 st2 (Nat.min_le_left ..) (Nat.min_le_right ..) (by omega) fun h' tk hk => hQ h' tk fun c o hc e => hk c o (fun x => hc (by simp [x])) (fun x => hc (by simp [x])) (fun x => hc (by simp [x])) e }
end
end KZ
namespace K24
open PySem PySem.Spec PyProof.Rows L2
section
variable {X : Cx}
/-- dict(zip(xs, ys)), xs a tuple of keys, ys a list -/
def tDictZip (K : PySem.W.Frag) (ta : TA) : TE := fun σ H Q => ta σ H fun vs H2 => ∃ (a b : Addr) (ks : List Key) (ys : List V), vs = [.ref a, .ref b] ∧ SqT K H2 a (ks.map kV) ∧ SqL K H2 b ys ∧ ks.length = ys.length ∧
  ∀ p, H2 p = none → Q (.ref p) (upd H2 p (.dK (mergeK [] (ks.zip ys))))
theorem zip_kv {P : Program} {w : World} : ∀ {ks : List Key} {us : List Value} {ys : List V} {vs : List Value}, Vals (ks.map kV) us → Vals ys vs → ks.length = ys.length →
    KV (ks.zip ys) (ks.zip vs) ∧ ∀ (i : Nat) (u v : Value), us[i]? = some u → vs[i]? = some v → ∃ k, (ks.zip vs)[i]? = some (k, v) ∧ (mixKind P w).is k u = true
  | [], us, ys, vs, hu, hv, hl => by
    cases hu
    cases hv with
    | nil => exact ⟨.nil, fun i u v e => by simp at e⟩
    | cons _ _ => cases hl
  | k :: ks, us, ys, vs, hu, hv, hl => by
    cases hv with
    | nil => cases hl
    | cons ry hv =>
      cases hu with
      | cons rk hu =>
        obtain ⟨i1, i2⟩ := zip_kv (P := P) (w := w) hu hv (by simpa using hl)
        refine ⟨.cons ⟨rfl, ry⟩ i1, fun i u v e1 e2 => ?_⟩
        cases i with
        | zero =>
          have e1 := Option.some.inj e1
          have e2 := Option.some.inj e2
          subst e1; subst e2
          exact ⟨k, rfl, kV_is rk⟩
        | succ i => exact i2 i u v (by simpa using e1) (by simpa using e2)
theorem nm2 {x u v : Nat} (h1 : x ≠ u) (h2 : x ≠ v) : x ∉ [u, v] := fun h => by
  rcases List.mem_cons.mp h with h | h
  · exact h1 h
  · exact h2 (List.mem_singleton.mp h)
theorem nm4 {b n : Nat} (h : b < n) : b ∉ [n + 4, n + 3, n, n + 1] := fun hm => by
  simp only [List.mem_cons, List.not_mem_nil, or_false] at hm
  omega
theorem sepZ {n a b : Nat} (ha : a < n) (hb : b < n) : ZipSep2 (n + 4) (n + 2) (n + 3) n (n + 1) [n, a] [n + 1, b] := by
  constructor <;> first | exact Nat.ne_of_gt (by omega) | exact Nat.ne_of_lt (by omega) | exact List.mem_cons_self | exact nm2 (x := n + 4) (by omega) (by omega) | exact nm2 (x := n + 3) (by omega) (by omega) | exact nm2 (x := n) (by omega) (by omega) | exact nm2 (x := n + 1) (by omega) (by omega)
theorem pe_dictZip {e1 e2 : Expr} {ta : TA} {p0 pos p pos2 : Pos} (hc : X.calm = true) (hgs : Gl X "dict") (hms : X.mg "dict" = none) (hg : Gl X "zip") (hm : X.mg "zip" = none) (ha : PA X [e1, e2] ta)
    (hs1 : starEach [.Call (.Name "zip" p) [e1, e2] [] pos2] X.env = (false, eval (.Call (.Name "zip" p) [e1, e2] [] pos2) X.env) :: starEach [] X.env := by rfl)
    (hp1 : (backTo pos (starEach [] X.env)).any (·.1) = false := by rfl) (hs : starEach [e1, e2] X.env = (false, eval e1 X.env) :: starEach [e2] X.env := by rfl) (hpl : (backTo pos2 (starEach [e2] X.env)).any (·.1) = false := by rfl) :
    PE X (.Call (.Name "dict" p0) [.Call (.Name "zip" p) [e1, e2] [] pos2] [] pos) (tDictZip X.K ta) := by
  refine ⟨fun pins s σ H Q I h => ?_⟩
  refine wpAny_Call_Name_kw (ld_blt (u := .type "dict") I hgs hms (by decide +kernel) ?_)
  refine PyProof.Rows.callWith_type1 ?_ hs1 hp1
  rw [hs1]
  show wpAny _ _ (spliced ((false, eval (.Call (.Name "zip" p) [e1, e2] [] pos2) X.env) :: backTo pos (starEach [] X.env))) _ _ s
  refine Calls.spliced_cons ?_
  refine wpAny_Call_Name_kw (ld_blt (u := .type "zip") I hg hm (by decide +kernel) ?_)
  refine PyProof.Rows.callWith_type1 ?_ hs hpl
  refine thn (ha.run pos2 pins s σ H _ I h) fun us s3 ⟨vs, H2, I3, r3, q3⟩ => ?_
  obtain ⟨a, b, ks, ys, rfl, hta, hlb, hlen, q⟩ := q3
  cases r3 with
  | cons r1 rr =>
    cases rr with
    | cons r2 rr =>
      cases rr
      cases r1
      cases r2
      obtain ⟨ka, rka, pka, hza⟩ := I3.tuple hta
      obtain ⟨kb, rkb, pkb, hzb⟩ := I3.list hlb
      obtain ⟨ot, hot, hct, nt, hdt⟩ := id pka
      have tA : s3.heap.IsTuple a ka.toArray := ⟨ot, hot, hct, nt, hdt⟩
      have tB : s3.heap.IsList b kb.toArray := pkb.isList
      have la : a < s3.heap.objs.size := Heap.lt_size hot
      have lb : b < s3.heap.objs.size := by obtain ⟨o, ho, _⟩ := tB; exact Heap.lt_size ho
      refine zip_begins2 (begins_tuple a ka.toArray) (begins_list b kb.toArray) tA tB fun h' hZ hTI hTO g1 g2 hsz hk => ?_
      refine Calls.spliced_nil ?_
      have sep := sepZ (n := s3.heap.objs.size) la lb
      obtain ⟨kv, hrel⟩ := zip_kv (P := X.prog) (w := X.w) rka rkb hlen
      have l1 : ka.length = ks.length := by have := rka.length; simpa using this.symm
      have l2 : kb.length = ys.length := rkb.length.symm
      have hmin : (ks.zip kb).length = min ka.toArray.size kb.toArray.size := by simp; omega
      refine call_dict_pairs (knd := mixKind X.prog X.w) (kvs := ks.zip kb) (KZ.arg_zipTL _ _ _ _ _ a b sep (Nat.ne_of_lt la) (Nat.ne_of_lt (Nat.lt_succ_of_lt lb)) ka.toArray kb.toArray) (I3.ok.hd hc)
        ⟨hZ, hTI, ⟨_, _, hTO⟩, ⟨_, g1, rfl, rfl⟩, ⟨_, g2, rfl, rfl⟩, tA.at fun o e => hk _ o e, tB.at fun o e => hk _ o e⟩ ⟨hmin, fun i u v r => hrel i u v (by simpa using r.1) (by simpa using r.2)⟩ (Nat.le_trans (Nat.min_le_right ..) (by rw [List.size_toArray, l2]; exact hzb)) fun h2 tk hd' k2 => ?_
      have hm : (s3.heap.objs.size + 5 == sysModules) = false := beq_eq_false_iff_ne.mpr (Nat.ne_of_gt (Nat.lt_of_lt_of_le I3.big (Nat.le_add_right _ 5)))
      have hlen2 : (mergeK [] (ks.zip ys)).length ≤ sizeLine := by
        refine Nat.le_trans (length_mergeK (ks.zip ys) []) ?_
        simp
        omega
      rw [hsz] at hd' ⊢
      have k3 : ∀ b o, s3.heap.get? b = some o → h2.get? b = some o := fun b o e => by
        have hb := Heap.lt_size e
        exact k2 b o (nm4 hb) (hk b o e)
      have hn : H2 (s3.heap.objs.size + 5) = none := I3.hok.fresh (Nat.le_add_right _ 5)
      exact ⟨.ref (s3.heap.objs.size + 5), upd H2 (s3.heap.objs.size + 5) (.dK (mergeK [] (ks.zip ys))), I3.laid (t' := tk) k3 (Nat.le_add_right _ 5) (show ObjOk X.prog X.w _ _ _ (.dK (mergeK [] (ks.zip ys))) from ⟨hlen2, hm, merged [] (ks.zip kb), KV.merge kv .nil, hd'⟩), rfl, q _ hn⟩
end
end K24

/-! part OE -/
set_option Elab.async false
set_option linter.all false
set_option maxRecDepth 100000
set_option maxHeartbeats 4000000
/-! == and != of dicts whose values have an == of their own -/
namespace K24
open PySem PySem.Spec PyProof.Rows L2
section
variable {X : Cx} {n : Nat} {D : Eqv}
theorem same_pairsG (hD : Mon D) (hE : EqG X n D) {A : Around} (sb : Sub X n A) {nm : String} {pins : List (Addr × Obj)} {σ : L2.St} {H1 : Hp} {a b : Addr} {oa ob : Obj} {ks ls : List (Key × V)}
    (fa : H1 a = some (.frz oa (.dK ks))) (fb : H1 b = some (.frz ob (.dK ls))) (hl : ks.length = ls.length) (hp : ∀ p ∈ ks, ∃ u, valV ls p.1 = some u ∧ D p.2 u H1) {s : Shared} (I : Inv X pins σ H1 s)
    {Q : Bool → Shared → Prop} (q : ∀ s', LoopI X pins σ H1 s' → Q true s') : wpAny (model X.prog X.w) A (Builtin.Dict.samePairs nm a b) Q X.xe s := by
  obtain ⟨ha, hoa, hxa, es, ep, _, hda, hsa, _, _⟩ := I.frzK fa
  obtain ⟨hb, hob, hxb, es', ep', _, hdb, hsb, _, _⟩ := I.frzK fb
  unfold Builtin.Dict.samePairs Builtin.Dict.showsAll
  rw [if_neg (show ¬ (a == sysModules) = true by rw [ha]; exact Bool.false_ne_true), if_neg (show ¬ (b == sysModules) = true by rw [hb]; exact Bool.false_ne_true)]
  refine wpAny_bind (wpAny_pure (wpAny_bind (wpAny_pure ?_)))
  refine wpAny_bind (wpAny_dictEntries hoa hda ?_)
  dsimp only
  refine wpAny_bind (wpAny_dictEntries hob hdb ?_)
  have hsz : es.size = es'.size := by omega
  rw [if_neg (by rw [hsz]; simp)]
  refine wpAny_bind (wpAny_dictEpoch hoa hda ?_)
  refine wpAny_bind ?_
  rw [Std.Legacy.Range.forIn_eq_forIn_range']
  simp only [Std.Legacy.Range.size, Nat.sub_zero, Nat.add_sub_cancel, Nat.div_one]
  refine wpAny_forIn_list _
    (fun rest q s' => q = (none, ()) ∧ LoopI X pins σ H1 s' ∧ ∃ i, rest = List.range' i (es.size - i) ∧ i ≤ es.size)
    _ ?_ ?_ _ _ ⟨rfl, ⟨H1, I, Ext.rfl'⟩, 0, by simp, Nat.zero_le _⟩
  · rintro x rest q' s' ⟨rfl, ⟨H2, I2, e2⟩, i, hr, hi⟩
    have hlt : i < es.size := by
      rcases Nat.lt_or_ge i es.size with h | h
      · exact h
      · rw [Nat.sub_eq_zero_of_le h] at hr; simp at hr
    obtain ⟨rfl, hrest⟩ : x = i ∧ rest = List.range' (i + 1) (es.size - (i + 1)) := by
      have e : es.size - i = (es.size - (i + 1)) + 1 := by omega
      rw [e, List.range'_succ] at hr
      injection hr with h1 h2
      exact ⟨h1, h2⟩
    obtain ⟨_, goa, _, _, _, va, _, _, kva, oa', ea', ga, _, dA, kA, pA, _⟩ := I2.frzK (e2 _ _ fa)
    obtain ⟨_, gob, _, _, _, vb, _, _, kvb, ob', eb', gb, _, dB, kB, pB, _⟩ := I2.frzK (e2 _ _ fb)
    rw [goa] at ga
    rw [gob] at gb
    cases ga
    cases gb
    obtain ⟨rfl, rfl⟩ := dict_ep hda dA
    obtain ⟨rfl, rfl⟩ := dict_ep hdb dB
    refine wpAny_bind (wpAny_dictEntries goa hda ?_)
    rw [Array.getElem?_eq_getElem hlt]
    have hlt' : x < ks.length := by omega
    obtain ⟨u1, hu1⟩ : ∃ p, ks[x]? = some p := ⟨_, List.getElem?_eq_getElem hlt'⟩
    obtain ⟨k, xv⟩ := u1
    obtain ⟨v1, hv1, rv1⟩ := kv_get kva hu1
    obtain ⟨yv, hy, hd⟩ := hp (k, xv) (List.mem_of_getElem? hu1)
    obtain ⟨hkey, hval⟩ := pA.get? (i := x) (e := ea'[x]) (k := k) (v := v1) (by rw [Array.getElem?_toList]; exact Array.getElem?_eq_getElem hlt) hv1
    obtain ⟨k', hk', hh⟩ := kA ea'[x] (Array.getElem_mem hlt)
    have ekk : k' = k := (mixKind X.prog X.w).inj _ _ _ hk' hkey
    rw [ekk] at hh
    show wpAny _ _ (holding [ea'[x].key, ea'[x].val] _ >>= _) _ _ _
    rw [hh]
    refine wpAny_bind (wpAny_holding (wpAny_bind (wpAny_dictFind_of hkey gob hdb kB ?_)))
    have hfind : findBy (mixKind X.prog X.w).is eb' k = valueAt vb k := by
      rw [← pB.find k]
      simp [findBy]
    have rr : RelO (some yv) (valueAt vb k) := by rw [← hy]; exact kvb.val k
    obtain ⟨y, hy2, ry⟩ := rr.some_of
    cases hj : eb'.findIdx? fun e => (mixKind X.prog X.w).is k e.key with
    | none =>
      rw [← hfind, findBy_of_findIdx?, hj] at hy2
      exact nomatch hy2
    | some j =>
      obtain ⟨hjlt, _, _⟩ := Array.findIdx?_eq_some_iff_getElem.mp hj
      have hv' : valueAt vb k = some eb'[j].val := by
        rw [← hfind, findBy_of_findIdx?, hj]
        simp [Array.getElem?_eq_getElem hjlt]
      have ey : eb'[j].val = y := Option.some.inj (hv'.symm.trans hy2)
      refine wpAny_bind (wpAny_dictEntries gob hdb ?_)
      rw [Array.getElem?_eq_getElem hjlt]
      refine wpAny_holding (wpAny_mono (hE A pins s' σ H2 xv yv _ _ sb I2 (by rw [hval]; exact rv1) (by rw [ey]; exact ry) (hD _ _ _ _ e2 hd)) (fun r s2 h2 => ?_) fun _ _ z => z)
      obtain ⟨rfl, H3, I3, e3⟩ := h2
      have e13 := e2.trans e3
      show wpAny _ _ (if (!true) = true then _ else _) _ _ _
      rw [if_neg (by decide)]
      obtain ⟨_, g3, _⟩ := I3.frzK (e13 _ _ fa)
      refine wpAny_bind (wpAny_dictEpoch g3 hda ?_)
      rw [if_neg (by simp)]
      exact wpAny_pure ⟨rfl, ⟨H3, I3, e13⟩, x + 1, hrest, hlt⟩
  · rintro q' s' ⟨rfl, L, i, hr, hi⟩
    exact wpAny_pure (q s' L)
/-- all but dicts is kept -/
def SameND (H H' : Hp) : Prop := ∀ c o, H c = some o → (∀ kvs, o ≠ .dK kvs) → H' c = some o
/-- two dicts of the same keys, their values seen equal by D -/
def DDict (D : Eqv) (x y : V) (H : Hp) : Prop := ∃ a b ks ls, x = .ref a ∧ y = .ref b ∧ H a = some (.dK ks) ∧ H b = some (.dK ls) ∧ ks.length = ls.length ∧ ∀ p ∈ ks, ∃ u, valV ls p.1 = some u ∧ ∀ H', SameND H H' → D p.2 u H'
theorem dictsG (hD : Mon D) (hE : EqG X n D) {A : Around} (sb : Sub X n A) {nm : String} {pins : List (Addr × Obj)} {σ : L2.St} {H : Hp} {a b : Addr} {ks ls : List (Key × V)} (ha : H a = some (.dK ks)) (hb : H b = some (.dK ls)) (hl : ks.length = ls.length)
    (hp : ∀ p ∈ ks, ∃ u, valV ls p.1 = some u ∧ ∀ H', SameND H H' → D p.2 u H') {s : Shared} (I : Inv X pins σ H s)
    {Q : Bool → Shared → Prop} (q : ∀ s', LoopI X pins σ H s' → Q true s') : wpAny (model X.prog X.w) A (Builtin.Dict.samePairs nm a b) Q X.xe s := by
  have na := I.nofrz ha True.intro
  obtain ⟨oa, I1⟩ := I.lock ha True.intro
  by_cases ne : a = b
  · subst ne
    rw [ha] at hb
    obtain rfl : ks = ls := by injection hb with hb; injection hb
    refine same_pairsG hD hE sb (oa := oa) (ob := oa) (ks := ks) (ls := ks) upd_same upd_same rfl (fun p hm => ?_) I1 fun s' ⟨H', I', e'⟩ => q s' ?_
    · obtain ⟨u, h1, h2⟩ := hp p hm
      exact ⟨u, h1, h2 _ fun c o ec hn => by
        rw [upd_ne]
        · exact ec
        · intro z
          rw [z, ha] at ec
          exact hn _ (Option.some.inj ec).symm⟩
    · have I4 := I'.unlock (e' _ _ upd_same) na
      refine ⟨_, I4, fun c o ec => ?_⟩
      by_cases ca : c = a
      · subst ca
        rw [upd_same, ← ec, ha]
      · rw [upd_ne ca]
        exact e' _ _ (by rw [upd_ne ca]; exact ec)
  obtain ⟨ob, I2⟩ := I1.lock (d := b) (u := .dK ls) (by rw [upd_ne (Ne.symm ne)]; exact hb) True.intro
  have nb := I.nofrz hb True.intro
  refine same_pairsG hD hE sb (oa := oa) (ob := ob) (ks := ks) (ls := ls) (by rw [upd_ne ne, upd_same]) upd_same hl (fun p hm => ?_) I2 fun s' ⟨H', I', e'⟩ => q s' ?_
  · obtain ⟨u, h1, h2⟩ := hp p hm
    exact ⟨u, h1, h2 _ fun c o ec hn => by
      rw [upd_ne, upd_ne]
      · exact ec
      · intro z
        rw [z, ha] at ec
        exact hn _ (Option.some.inj ec).symm
      · intro z
        rw [z, hb] at ec
        exact hn _ (Option.some.inj ec).symm⟩
  · have fb : H' b = some (.frz ob (.dK ls)) := e' _ _ upd_same
    have fa : H' a = some (.frz oa (.dK ks)) := e' _ _ (by rw [upd_ne ne, upd_same])
    have I3 := I'.unlock fb nb
    have I4 := I3.unlock (d := a) (u := .dK ks) (od := oa) (by rw [upd_ne ne]; exact fa) na
    refine ⟨_, I4, fun c o ec => ?_⟩
    by_cases ca : c = a
    · subst ca
      rw [upd_same, ← ec, ha]
    · rw [upd_ne ca]
      by_cases cb : c = b
      · subst cb
        rw [upd_same, ← ec, hb]
      · rw [upd_ne cb]
        exact e' _ _ (by rw [upd_ne cb, upd_ne ca]; exact ec)
theorem rcG_dict (hD : Mon D) (hE : EqG X n D) : RcG X (n + 1) (DDict D) := by
  intro A pins s σ H x y u v sb I rx ry d
  obtain ⟨a, b, ks, ls, rfl, rfl, ha, hb, hl, hp⟩ := d
  cases rx
  cases ry
  obtain ⟨_, ya, va, ra, da⟩ := (show ObjOk X.prog X.w H s.heap a (.dK ks) from I.hok a _ ha)
  obtain ⟨_, yb, vb, rb, db⟩ := (show ObjOk X.prog X.w H s.heap b (.dK ls) from I.hok b _ hb)
  refine wpAny_richCompare_same_room (op := .Eq) da.typeIs db.typeIs PySem.F.slot_dict_eq (wpAny_call_entry PySem.F.slot_dict_eq da.typeIs PySem.F.entry_dict_eq ?_ (PySem.F.args_dict_eq_2 _ _)) sb.room.units0
  show wpAny _ _ (Builtin.Dict.dictSlotArgs "__eq__" ⟨[.ref a, .ref b], []⟩ >>= _) _ _ s
  refine wpAny_bind ?_
  unfold Builtin.Dict.dictSlotArgs
  refine wpAny_bind (wpAny_notOrdered_dict da.typeIs ?_)
  show wpAny _ _ (pure (Value.ref a, Value.ref b)) _ _ s
  refine wpAny_pure ?_
  refine wpAny_bind (wpAny_isInstance (T := "dict") db.typeIs PySem.F.sub_dict_dict ?_)
  simp only [Bool.not_true, Bool.false_eq_true, if_false]
  refine wpAny_bind (wpAny_pure (wpAny_bind (wpAny_pure ?_)))
  refine wpAny_bind (dictsG hD hE sb.in1 ha hb hl hp I fun s' L => ?_)
  exact wpAny_pure ⟨_, rfl, (fun x => nomatch x), rfl, L⟩
/-- != of such dicts: False -/
def rNeDG (D : Eqv) : R2 := fun x y H Q => DDict D x y H ∧ ∀ H', Ext H H' → Q (.bl false) H'
theorem op_neDG (hD : Mon D) (hE : EqG X n D) (hr : Room (n + 1) X.A) : OpR X (compareOp .NotEq) (rNeDG D) := by
  intro pins s σ H x y v u Q I rx ry hq
  obtain ⟨⟨a, b, ks, ls, rfl, rfl, ha, hb, hl, hp⟩, q⟩ := hq
  cases rx
  cases ry
  have sb : Sub X (n + 1) X.A := ⟨hr, rfl⟩
  obtain ⟨_, ya, va, ra, da⟩ := (show ObjOk X.prog X.w H s.heap a (.dK ks) from I.hok a _ ha)
  obtain ⟨_, yb, vb, rb, db⟩ := (show ObjOk X.prog X.w H s.heap b (.dK ls) from I.hok b _ hb)
  refine wpAny_richCompare_same_room (op := .NotEq) da.typeIs db.typeIs PySem.F.slot_dict_ne (wpAny_call_entry PySem.F.slot_dict_ne da.typeIs PySem.F.entry_dict_ne ?_ (PySem.F.args_dict_ne_2 _ _)) sb.room.units0
  show wpAny _ _ (Builtin.Dict.dictSlotArgs "__ne__" ⟨[.ref a, .ref b], []⟩ >>= _) _ _ s
  refine wpAny_bind ?_
  unfold Builtin.Dict.dictSlotArgs
  refine wpAny_bind (wpAny_notOrdered_dict da.typeIs ?_)
  show wpAny _ _ (pure (Value.ref a, Value.ref b)) _ _ s
  refine wpAny_pure ?_
  refine wpAny_bind (wpAny_isInstance (T := "dict") db.typeIs PySem.F.sub_dict_dict ?_)
  simp only [Bool.not_true, Bool.false_eq_true, if_false]
  refine wpAny_bind (wpAny_pure (wpAny_bind (wpAny_pure ?_)))
  refine wpAny_bind (dictsG hD hE sb.in1 ha hb hl hp I fun s' L => ?_)
  obtain ⟨H', I', e⟩ := L
  exact wpAny_pure ⟨_, rfl, (fun x => nomatch x), .bl false, H', I', rfl, q H' e⟩
end
/-! ### != by an own == -/
section
variable {prog : Program} {w : World} {A : Around} {E : Value → Shared → Prop} {s : Shared} {K : PySem.W.Frag} {x C L f : Addr} {h₀ : Heap} {m : Str → Option Value} {ox : Obj} {od : Option Obj} {name : Str} {b : Value}
open PySem.W in
theorem ifBound_B {M : Model} {id : String} {args : List Value} {Q : Option Value → Shared → Prop} (Xi : K.In s.heap) (I : InstAt s.heap x ox C od) (hs : findIn K (.ref C) name = some (some (.builtin id))) (hb : ∀ self, bindSpecial (.builtin id) self = pure (.builtin id, [self]))
    (h : wpAny M A (call (.builtin id) (.ref x :: args)) (fun v => Q (some v)) E s) : wpAny M A (callSpecialIfBound? (.ref x) name args) Q E s := by
  simp only [callSpecialIfBound?, bindSpecialIfBound?]
  refine wpAny_holding (wpAny_bind (wpAny_bind (wpAny_bind (I.type.here ((looks_findIn Xi hs).here ?_)))))
  refine wpAny_bind (wpAny_askSetting (wpAny_ite ?_))
  have fin : wpAny M A (call (.builtin id) ([.ref x] ++ args) >>= fun v => pure (some v)) Q E s := wpAny_bind (wpAny_mono h (fun v s' h' => wpAny_pure h') fun _ _ h' => h')
  rw [hb]
  split
  · exact wpAny_bind (wpAny_pure (wpAny_pure (by exact fin)))
  · exact wpAny_tryCatch (wpAny_bind (wpAny_pure (wpAny_pure (by exact fin))))
open PySem.W in
theorem ne_K {Q : Value → Shared → Prop} (hu : A.units + 1 < cLine) (F : Fr h₀ L s.heap m) (X₀ : K.In h₀) (I : InstAt s.heap x ox C od) (hb : Looks (model prog w) s.heap (typeOf b) (.ref C)) (hm : mroIn K C (.type "object") = some true)
    (hn : findIn K (.ref C) "__ne__" = some (some (.builtin "object.__ne__"))) (hs : findIn K (.ref C) "__eq__" = some (some (.ref f))) (hf : isFn K (.ref f) = true)
    (h : wpAny (model prog w) A.in1 (call (.ref f) [.ref x, b]) (fun v s' => ∃ r, v = .bool r ∧ Q (.bool (!r)) s') E s) : wpAny (model prog w) A (richCompare .NotEq (.ref x) b) Q E s := by
  have Xi := X₀.keeps F.keep
  have sub : Looks (model prog w) s.heap (isInstance (.ref x) (.type "object")) true := I.type.andThen (looks_mroIn Xi hm)
  unfold richCompare
  simp only [oneThing_ref]
  refine wpAny_holding (wpAny_bind (wpAny_cRoomFor (Nat.lt_of_succ_lt hu) ?_))
  refine wpAny_bind (I.type.here (wpAny_bind (hb.here ?_)))
  rw [cmpInfo_NotEq]
  dsimp only
  rw [show (Value.ref C != Value.ref C) = false from by simp]
  simp only [Bool.false_eq_true, if_false]
  refine wpAny_bind (wpAny_pure ?_)
  simp only [Bool.false_eq_true, if_false]
  refine wpAny_bind ?_
  unfold tryCompare
  refine wpAny_bind (ifBound_B Xi I hn (fun self => PySem.F.cmp_object.ne.bind self) ?_)
  refine wpAny_call (codeAny_call_builtin PySem.F.cmp_object.ne.plain PySem.F.cmpEntry_ne (@check_slot (model prog w) _ _ s "object.__ne__" "object" "__ne__" (.ref x) [b] [] _ PySem.F.cmpKind_ne PySem.F.cmpSplit_ne sub (PySem.F.cmpArgs_ne _ _) ?_))
  show wpAny _ _ (Builtin.«object.__ne__» ⟨[.ref x, b], []⟩) _ _ s
  unfold Builtin.«object.__ne__»
  refine wpAny_bind (m := slotArgs _ _ _) (wpAny_of_eq (a := (Value.ref x, [b])) (by rfl) ?_)
  refine wpAny_bind (wpAny_cRoomFor hu ?_)
  refine wpAny_bind (ifBound_K Xi I hs hf (wpAny_mono h (fun v s' hv => ?_) fun _ _ e => e))
  obtain ⟨r, rfl, hq⟩ := hv
  refine wpAny_bind (wpAny_truthy_bool ?_)
  refine wpAny_pure ?_
  exact wpAny_pure (wpAny_pure hq)
end
/-- x != y by the class's own ==, which says True -/
def rNeIns (C : Addr) (R : Addr → Addr → Hp → Prop) : R2 := fun x y H Q => DIns C R x y H ∧ ∀ H', Ext H H' → Q (.bl false) H'
section
variable {X : Cx} {n : Nat}
theorem op_neIns {CX : CXT} {C f : Addr} {fd : FuncData} {ps : List Str} {R : Addr → Addr → Hp → Prop} {E : XK} (F : FnOk X.prog X.w X.K X.mg X.base CX n f fd ps (spEq R)) (hn : PySem.W.findIn X.K (.ref C) "__ne__" = some (some (.builtin "object.__ne__")))
    (hm : PySem.W.mroIn X.K C (.type "object") = some true) (hs : PySem.W.findIn X.K (.ref C) "__eq__" = some (some (.ref f))) (hf : PySem.W.isFn X.K (.ref f) = true) (hb : Binds X.K fd ps []) (hx : Passes CX X E) (hr : Room (n + 1) X.A) : OpR X (compareOp .NotEq) (rNeIns C R) := by
  intro pins s σ H x y u v Q I rx ry hq
  obtain ⟨⟨a, b, dx, dy, fs, gs, rfl, rfl, ha, hb', hR⟩, q⟩ := hq
  cases rx
  cases ry
  have sb : Sub X (n + 1) X.A := ⟨hr, rfl⟩
  have sb1 := sb.in1
  obtain ⟨mA, J, _⟩ := ins_get I.hok ha
  obtain ⟨mB, J', _⟩ := ins_get I.hok hb'
  obtain ⟨od, J, _⟩ := J.look
  obtain ⟨od', J', _⟩ := J'.look
  obtain ⟨m, hF⟩ := I.fr
  refine ne_K (Nat.lt_of_le_of_lt (Nat.add_le_add_left (Nat.succ_le_succ (Nat.zero_le n)) _) (by have := hr.un; omega)) hF I.ok.mod.kin J J'.type hm hn hs hf ?_
  have hsp : spEq R [.ref a, .ref b] H (fun v H' => v = .bl true ∧ Ext H H') E := ⟨a, b, rfl, hR, fun H' e => ⟨rfl, e⟩⟩
  have e0 : Env0 X.prog X.w X.K X.mg X.base X.A.in1 X.stack s H := by
    have e := I.env0
    exact ⟨by rw [sb1.fr]; exact e.frames, e.mod, e.bs, e.bsz, e.funs, e.frf, e.hok, e.bare⟩
  have hl := F.len _ _ _ _ hsp
  have r2 : Vals [V.ref a, V.ref b] [Value.ref a, Value.ref b] := .cons rfl (.cons rfl .nil)
  refine wpAny_call (codeAny_mono (F.run X.A.in1 X.stack s H ⟨[.ref a, .ref b], []⟩ [.ref a, .ref b] [.ref a, .ref b] _ E sb1.room e0 (by
    have := hb s [.ref a, .ref b] I.kIn (by simpa using hl)
    simpa using this) r2 hsp) fun r s' hq => ?_)
  cases r with
  | error e => exact hx pins σ H s e s' I hq
  | ok fl =>
    cases fl with
    | ret w =>
      obtain ⟨z, H', I', rz, ez, ex⟩ := I.after hq
      subst ez
      cases rz
      exact ⟨true, rfl, .bl false, H', I', rfl, q H' ex⟩
    | next => exact False.elim hq
    | brk => exact False.elim hq
    | cont => exact False.elim hq
end
/-! ### how they are used -/
/-- the class's == is known -/
structure EqT (K : PySem.W.Frag) (C : Addr) (f : Addr) : Prop where
  eq : PySem.W.findIn K (.ref C) "__eq__" = some (some (.ref f))
  ne : PySem.W.findIn K (.ref C) "__ne__" = some (some (.builtin "object.__ne__"))
  fn : PySem.W.isFn K (.ref f) = true
section
variable {X : Cx} {k : Nat} {C : Addr} {R : Addr → Addr → Hp → Prop}
end
end K24

/-! part PX -/
set_option Elab.async false
set_option linter.all false
set_option maxRecDepth 100000
set_option maxHeartbeats 4000000
/-! try with clauses with and without a name; what a caught exception is behind its suite -/
namespace K24
open PySem PySem.Spec PyProof.Rows L2
/-- at a: an exception that was caught, its class and its dict -/
def xob (a : Addr) (cls : Value) (d : Option Addr) : HO := .ext fun h => ∃ (oe : Obj) (vs : Array Value), h.get? a = some oe ∧ Zc cls d oe ∧ oe.data = .fields vs
theorem Inv.track {X : Cx} {pins : List (Addr × Obj)} {σ σ6 : L2.St} {H H6 : Hp} {sI s6 : Shared} {a : Addr} {cls : Value} {d : Option Addr} {oe : Obj} {vs : Array Value} (J : L2.Inv X pins σ H sI) (nb : sI.heap.get? a = none) (hx : X.ex = [])
    (S : L2.Inv X pins σ6 H6 s6) (ha : s6.heap.get? a = some oe) (hz : Zc cls d oe) (hd : oe.data = .fields vs) (hn : H6 a = none) : L2.Inv X pins σ6 (upd H6 a (xob a cls d)) s6 := by
  have ne0 : ∀ b o, X.s_0.heap.get? b = some o → b ≠ a := fun b o e z => by
    obtain ⟨o', q⟩ := J.base.there b o e (by rw [hx]; exact fun z => nomatch z)
    rw [z, nb] at q
    cases q
  refine ⟨S.ok, S.os, S.bare, ⟨S.base.keep, S.base.slot, fun b o e n hb => ?_, S.base.there, fun b xs e => ?_, fun b o u e => ?_, fun b ps e => ?_⟩, S.loc, S.cell, ?_, fun x c e => ?_, fun p hp => ?_, fun b u e => ?_, S.len⟩
  · rw [upd_ne (ne0 b o e)]
    exact S.base.free b o e n hb
  · have q := S.base.tups b xs e
    rw [upd_ne (ne_of_none q hn)]
    exact q
  · have q := S.base.frzs b o u e
    rw [upd_ne (ne_of_none q hn)]
    exact q
  · obtain ⟨m, q⟩ := S.base.tbls b ps e
    exact ⟨m, by rw [upd_ne (ne_of_none q hn)]; exact q⟩
  · have ne : X.env.locals ≠ a := fun z => by
      obtain ⟨m, ⟨o, es, ep, ho, hd', _⟩, _⟩ := S.loc
      rw [z, ha] at ho
      cases ho
      rw [hd] at hd'
      cases hd'
    rw [upd_ne ne]
    exact S.free
  · have ne : c ≠ a := fun z => by
      obtain ⟨v, o, ho, hd'⟩ := S.cell x c e
      rw [z, ha] at ho
      cases ho
      rw [hd] at hd'
      cases hd'
    rw [upd_ne ne]
    exact S.freeC x c e
  · obtain ⟨e, n, r⟩ := S.pin p hp
    obtain ⟨e2, _⟩ := J.pin p hp
    have ne : p.1 ≠ a := fun z => by
      rw [z, nb] at e2
      cases e2
    exact ⟨e, by rw [upd_ne ne]; exact n, r⟩
  · by_cases hb : b = a
    · subst hb
      rw [upd_same] at e
      cases e
      refine ⟨⟨oe, vs, ha, hz, hd⟩, ⟨oe, ha⟩, fun h1 h2 ⟨oe, vs, q1, q2, q3⟩ k => ⟨oe, vs, k _ q1, q2, q3⟩⟩
    · rw [upd_ne hb] at e
      exact (S.hok b u e).stay (fun c v _ q => q) (fun c q => by rw [upd_ne (ne_of_none q hn)]; exact q) fun c xs q => by rw [upd_ne (ne_of_none q hn)]; exact q
/-- an except clause: the class, the name's slot, what its suite asks -/
structure Cl where
  c : Value
  oi : Option Nat
  ts : Addr → Value → Option Addr → TS
def endsC (D : Ends) (a : Addr) (cls : Value) (d : Option Addr) : Option Nat → Ends
  | none => D
  | some i => { nx := fun σ' H' => H' a = none → D.nx (σ'.set i none) (upd H' a (xob a cls d)), rt := D.rt, bk := fun σ' H' => D.bk (σ'.set i none) H', ct := fun σ' H' => D.ct (σ'.set i none) H' }
def slotC (σ : L2.St) (a : Addr) : Option Nat → L2.St
  | none => σ
  | some i => σ.set i (some (.ref a))
def wMix (K : PySem.W.Frag) (Wout : WX) (D : Ends) : List Cl → WX
  | [] => Wout
  | q :: r => fun cls d σ H => ∃ b, PySem.W.exmOne K cls q.c = some b ∧ (b = true → ∀ a, H a = none → q.ts a cls d (endsC D a cls d q.oi) (slotC σ a q.oi) H) ∧ (b = false → wMix K Wout D r cls d σ H)
inductive HdsMx (X : Cx) : List ExceptHandler → List Cl → Prop
  | nil : HdsMx X [] []
  | plain {x : Str} {c : Value} {ts : Addr → Value → Option Addr → TS} {b₀ : Stmt} {suite : List Stmt} {np pos' : Pos} {hds : List ExceptHandler} {l : List Cl} (hc : Names X x c)
      (hsu : ∀ (a : Addr) (oe : Obj) (cls : Value) (d : Option Addr) (pn : List (Addr × Obj)), Zc cls d oe → (∃ vs, oe.data = .fields vs) → PSs (X.suite a ((a, oe) :: pn)) (b₀ :: suite) (ts a cls d)) (r : HdsMx X hds l) :
      HdsMx X (.ExceptHandler (some (.Name x np)) none (b₀ :: suite) pos' :: hds) (⟨c, none, ts⟩ :: l)
  | as {x n : Str} {i : Nat} {c : Value} {ts : Addr → Value → Option Addr → TS} {b₀ : Stmt} {suite : List Stmt} {np pos' : Pos} {hds : List ExceptHandler} {l : List Cl} (hc : Names X x c) (hi : X.N[i]? = some n) (hln : X.env.kindOf n = some .local)
      (hsu : ∀ (a : Addr) (oe : Obj) (cls : Value) (d : Option Addr) (pn : List (Addr × Obj)), Zc cls d oe → (∃ vs, oe.data = .fields vs) → PSs (X.suite a ((a, oe) :: pn)) (b₀ :: suite) (ts a cls d)) (r : HdsMx X hds l) :
      HdsMx X (.ExceptHandler (some (.Name x np)) (some n) (b₀ :: suite) pos' :: hds) (⟨c, some i, ts⟩ :: l)
section
variable {X : Cx} {body : List Stmt} {h₀ : ExceptHandler} {hds : List ExceptHandler} {l : List Cl} {pos : Pos} {tb : WX → TS} {Wout : WX}
theorem ps_try_mix (hs : X.stack = X.env :: X.outer) (hf : X.env.frame = some X.env.locals) (hN : X.N.Nodup) (hxx : X.ex = []) (tk : Takes X Wout)
    (hb : ∀ (W : WX) (pn : List (Addr × Obj)) (xe : Value → Shared → Prop), Takes (X.tr pn xe) W → PassesOwn (model X.prog X.w) X.A X.env xe → PSs (X.tr pn xe) body (tb W))
    (hh : HdsMx X (h₀ :: hds) l) : PS X (.Try body (h₀ :: hds) [] [] pos) (fun D σ H => tb (wMix X.K Wout D l) D σ H) := by
  refine ⟨fun pins s σ H D I h => ?_⟩
  have ok := I.ok
  have hfr : X.A.frames = some (X.env :: X.outer) := by rw [ok.frames, hs]
  refine wpAny_Try_except ?_
  refine wpAny_mono ((hb (wMix X.K Wout D l) (X.pn ++ pins) (fun e s₁ => wpAny (model X.prog X.w) X.A (noteFrame e X.env) (fun _ s₂ => wpAny (model X.prog X.w) X.A (setFlight e none) (fun _ s₃ =>
    wpAny (model X.prog X.w) X.A (handleBy e X.env (h₀ :: hds)) (SP X pins D) X.xe s₃) X.xe s₂) X.xe s₁) (fun u s' xx => ?_) PassesOwn.looking).run [] s σ H D (I.toTry _) h) (fun f s1 hsp => ?_) (fun e s1 he => he)
  · obtain ⟨a, B, sI, pins', σ', H', cls, d, rfl, J', nb, up, sky, na, os, ag, w⟩ := xx
    have J : L2.Inv X pins σ' H' sI := J'.ofTry ok
    have sky' : Sky B (X.env :: X.outer) a (Zc cls d) X.env.locals s'.heap := by rw [← hs]; exact sky
    show wpAny (model X.prog X.w) X.A (noteFrame (.ref a) X.env) _ _ _
    refine Sky.land Zc.steady hfr hf sky' fun h3 fl3 up3 => ?_
    have J3 : L2.Inv X pins σ' H' { s' with heap := h3 } := J.landed nb fl3.1 (up.trans up3) os ag
    obtain ⟨oe3, vs3, he3, hz3, hd3⟩ := fl3.there
    have notFr : ∀ {h : Heap} {o : Obj} {vs : Array Value}, h.FunFrames B (X.env :: X.outer) → h.get? a = some o → o.data = .fields vs → a ∉ frs (X.env :: X.outer) := fun {h o vs} ff e dd hm => by
      obtain ⟨_, o', e', hnf⟩ := ff.mem hm
      rw [e] at e'; cases e'
      exact hnf _ dd
    have nfr := notFr fl3.2.2.1 he3 hd3
    have nL : a ≠ X.env.locals := fun z => nfr (List.mem_filterMap.mpr ⟨X.env, List.mem_cons_self, by rw [hf, z]⟩)
    have nF : a ∉ X.fs := fun hm => by
      obtain ⟨e, he, q⟩ := List.mem_filterMap.mp hm
      exact nfr (List.mem_filterMap.mpr ⟨e, List.mem_cons_of_mem _ he, q⟩)
    have S3 := J3.suite he3 hd3 na nL nF
    have nI : sI.heap.get? a = none := by
      cases e : sI.heap.get? a with
      | none => rfl
      | some o =>
        have q := nb a o e (by show a ∉ frs X.stack; rw [hs]; exact nfr)
        rw [fl3.2.1] at q
        cases q
    have test : ∀ {x : Str} {c : Value} {np : Pos}, Names X x c → ∀ {Q : Value → Shared → Prop} {E : Value → Shared → Prop}, Q c { s' with heap := h3 } → wpAny (model X.prog X.w) (X.A.mark (some (.ref a))) (eval (.Name x np) X.env) Q E { s' with heap := h3 } := fun {x c np} hc {Q E} q => by
      obtain ⟨hg, hdbg, hm | ⟨hm, hv, hnn⟩⟩ := hc
      · exact ld_glob (X := X.suite a ((a, oe3) :: (X.pn ++ pins))) S3 hg hm q hdbg
      · exact ld_blt (X := X.suite a ((a, oe3) :: (X.pn ++ pins))) S3 hg hm hv q hnn hdbg
    have LT : PySem.W.Looks (model X.prog X.w) h3 (typeOf (.ref a)) cls := fun A Q E s k q => wpAny_typeOf_ref (k _ _ he3) (by rw [hz3.1]; exact q)
    have go : ∀ {hds' : List ExceptHandler} {l' : List Cl}, HdsMx X hds' l' → wMix X.K Wout D l' cls d σ' H' →
        wpAny (model X.prog X.w) X.A (handleBy (.ref a) X.env hds') (SP X pins D) X.xe { s' with heap := h3 } := by
      intro hds' l' hk
      induction hk with
      | nil =>
        intro w
        refine wpAny_handleBy_nil ?_
        obtain ⟨k1, k2, k3, oe, vs, T, oT, ts', he, hz, hd, h1, hr⟩ := id fl3
        unfold PySem.passOn
        refine wpAny_bind (wpAny_field he hd h1 ?_)
        rw [if_neg (show ¬ ((Value.ref T == Value.none) = true) from by simp)]
        have fin : wpAny (model X.prog X.w) X.A (setFlight (.ref a) X.env.frame) (fun _ s4 => wpAny (model X.prog X.w) X.A (throw (.ref a) : Sem Flow) (SP X pins D) X.xe s4) X.xe { s' with heap := h3 } := by
          rw [hf]
          refine HandSPX.setFlight_upZ fl3 fun h4 hh4 up4 => wpAny_throw (tk _ _ ?_)
          exact ⟨a, B, sI, pins, σ', H', cls, d, rfl, J, nb, (up.trans up3).trans up4, .inr (.inr (by rw [hs]; exact hh4)), na, os, ag, w⟩
        first
          | exact wpAny_bind (wpAny_pure (wpAny_bind fin))
          | exact wpAny_bind fin
      | @plain x c ts b₀ suite np pos' hds2 l2 hc hsu r ih =>
        intro w
        obtain ⟨b, hb1, hyes, hno⟩ := w
        refine wpAny_handleBy_cons (codeAny_handlers_test ?_) (by intro q; cases q)
        refine test hc ((PySem.W.exm_one (M := model X.prog X.w) (J3.kIn) LT hb1).here ?_)
        cases b with
        | true =>
          refine codeAny_handlers_suite ?_
          refine HandSPX.lands_againZ fl3 fun h4 fl4 up4 => ?_
          have J4 : L2.Inv X pins σ' H' { s' with heap := h4 } := J.landed nb fl4.1 ((up.trans up3).trans up4) os ag
          obtain ⟨oe4, vs4, he4, hz4, hd4⟩ := fl4.there
          have S4 := J4.suite he4 hd4 na nL nF
          refine wpAny_mono ((hsu a oe4 cls d (X.pn ++ pins) hz4 ⟨_, hd4⟩).run [] _ _ H' _ S4 (hyes rfl a na)) (fun f s6 hsp => ?_) (fun _ _ z => False.elim z)
          cases f with
          | next => obtain ⟨σ6, H6, S6, q6⟩ := hsp; exact ⟨_, _, S6.unsuite ok, q6⟩
          | brk => obtain ⟨σ6, H6, S6, q6⟩ := hsp; exact ⟨_, _, S6.unsuite ok, q6⟩
          | cont => obtain ⟨σ6, H6, S6, q6⟩ := hsp; exact ⟨_, _, S6.unsuite ok, q6⟩
          | ret u => obtain ⟨v6, σ6, H6, S6, r6, q6⟩ := hsp; exact ⟨_, _, _, S6.unsuite ok, r6, q6⟩
        | false =>
          show wpAny _ X.A (handleBy (.ref a) X.env hds2) _ _ _
          exact ih (hno rfl)
      | @as x n i c ts b₀ suite np pos' hds2 l2 hc hi hln hsu r ih =>
        intro w
        obtain ⟨b, hb1, hyes, hno⟩ := w
        refine wpAny_handleBy_cons (codeAny_handlers_test ?_) (by intro q; cases q)
        refine test hc ((PySem.W.exm_one (M := model X.prog X.w) (J3.kIn) LT hb1).here ?_)
        cases b with
        | true =>
          refine codeAny_handlers_suite_as ?_
          refine HandSPX.lands_againZ fl3 fun h4 fl4 up4 => ?_
          have J4 : L2.Inv X pins σ' H' { s' with heap := h4 } := J.landed nb fl4.1 ((up.trans up3).trans up4) os ag
          obtain ⟨oe4, vs4, he4, hz4, hd4⟩ := fl4.there
          have S4 := J4.suite he4 hd4 na nL nF
          refine store_ok (X := X.suite a ((a, oe4) :: (X.pn ++ pins))) (v := .ref a) S4 hN hi (.inl hln) rfl (fun s5 S5 => ?_) (.inr hln)
          refine wpAny_mono ((hsu a oe4 cls d (X.pn ++ pins) hz4 ⟨_, hd4⟩).run [] s5 _ H' _ S5 (hyes rfl a na)) (fun f s6 hsp => ?_) (fun _ _ z => False.elim z)
          have end_ : ∀ {σ6 : L2.St} {H6 : Hp} {Q : Shared → Prop}, L2.Inv X pins σ6 H6 s6 → (∀ s7, L2.Inv X pins (σ6.set i none) H6 s7 → Q s7) →
              wpAny (model X.prog X.w) X.A (do bindName X.env n .none; unbindBehindTheSuite X.env n pos') (fun _ s7 => Q s7) X.xe s6 := fun {σ6 H6 Q} S6 hq => gone_ok S6 hN hi hln hq
          cases f with
          | next =>
            obtain ⟨σ6, H6, S6, q6⟩ := hsp
            obtain ⟨e6, n6, _⟩ := S6.pin (a, oe4) (List.mem_append_left _ List.mem_cons_self)
            exact end_ (Inv.track J nI hxx (S6.unsuite ok) e6 hz4 hd4 n6) fun s7 J7 => ⟨_, _, J7, q6 n6⟩
          | brk => obtain ⟨σ6, H6, S6, q6⟩ := hsp; exact end_ (S6.unsuite ok) fun s7 J7 => ⟨_, _, J7, q6⟩
          | cont => obtain ⟨σ6, H6, S6, q6⟩ := hsp; exact end_ (S6.unsuite ok) fun s7 J7 => ⟨_, _, J7, q6⟩
          | ret u => obtain ⟨v6, σ6, H6, S6, r6, q6⟩ := hsp; exact end_ (S6.unsuite ok) fun s7 J7 => ⟨_, _, _, J7, r6, q6⟩
        | false =>
          show wpAny _ X.A (handleBy (.ref a) X.env hds2) _ _ _
          exact ih (hno rfl)
    exact go hh w
  · cases f with
    | next => obtain ⟨σ', H', J', q⟩ := hsp; exact wpAny_execs_nil ⟨σ', H', J'.ofTry ok, q⟩
    | brk => obtain ⟨σ', H', J', q⟩ := hsp; exact ⟨σ', H', J'.ofTry ok, q⟩
    | cont => obtain ⟨σ', H', J', q⟩ := hsp; exact ⟨σ', H', J'.ofTry ok, q⟩
    | ret u => obtain ⟨v, σ', H', J', r, q⟩ := hsp; exact ⟨v, σ', H', J'.ofTry ok, r, q⟩
end
/-- the field of an exception that was caught -/
def tXo (K : PySem.W.Frag) (C : Addr) (f : Str) (te : TE) : TE := fun σ H Q => te σ H fun x H1 => ∃ (a dd : Addr) (fs : List (Str × V)) (v : V), x = .ref a ∧ XfC K C ∧ PySem.W.findIn K (.ref C) f = some none ∧ H1 a = some (xob a (.ref C) (some dd)) ∧ H1 dd = some (.xd fs) ∧ fs.lookup f = some v ∧ Q v H1
theorem pe_xo {X : Cx} {C : Addr} {e : Expr} {te : TE} {pos : Pos} {n : Str} (he : PE X e te) (hb : attributeBase e n X.env (eval e X.env) = eval e X.env := by rfl) : PE X (.Attribute e n pos) (tXo X.K C n te) := by
  refine ⟨fun pins s σ H Q I h => ?_⟩
  refine attr_of hb (thn (he.run pins s σ H _ I h) fun u s1 hh => ?_)
  obtain ⟨x, H1, I1, rx, a, dd, fs, v, ex, T, hno, ea0, ea, l, q⟩ := hh
  subst ex
  obtain rfl : u = Value.ref a := rx
  have ho0 : ObjOk X.prog X.w H1 s1.heap a (.ext fun h => ∃ (oe : Obj) (vs : Array Value), h.get? a = some oe ∧ Zc (.ref C) (some dd) oe ∧ oe.data = .fields vs) := I1.hok a _ ea0
  obtain ⟨oe, vs, ha, hz, hd⟩ := ho0.1
  have hx : ObjOk X.prog X.w H1 s1.heap dd (.xd fs) := I1.hok dd _ ea
  obtain ⟨mA, hns, hr⟩ := hx
  obtain ⟨od, ho, hl⟩ := lookIn_ns hns
  obtain ⟨u, hu, ru⟩ := RelO.some_of (v := v) (o := mA n) (by rw [← l]; exact hr n)
  have J : PySem.W.InstAt s1.heap a oe C (some od) := ⟨ha, hz.1, by unfold PySem.W.notCls; rw [hd] <;> rfl, by rw [hz.2]; exact ho⟩
  exact HandSPX.exc_get I1.kIn J T.ga T.gg T.exC (PySem.W.findObj_own T.hdC hno rfl (by rw [hl, hu])) (handed_of ru) ⟨v, H1, I1.tok _, ru, q⟩
end K24

/-! part RX -/
set_option Elab.async false
set_option linter.all false
set_option maxRecDepth 100000
set_option maxHeartbeats 4000000
namespace K24
open PySem PySem.Spec PyProof.Rows L2
/-! ### own exceptions -/
structure OkE (P : Program) (w : World) (K : PySem.W.Frag) (mg : Str → Option Value) (base : Heap) (C : Addr) (x : Str) (ps : List Str) (sp : Sp) : Prop where
  ex : ∃ f fd, FnOk P w K mg base (L2.CX P w) 1 f fd ps sp ∧ Binds K fd ps [] ∧ PySem.W.findIn K (.ref C) "__init__" = some (some (.ref f)) ∧ PySem.W.typeIn K (.ref f) = some (.type "function") ∧ mg x = some (.ref C)
  cls : OexC K C
abbrev fld1 (f : Str) (v : V) : List (Str × V) := [(f, v)]
abbrev fld2 (f g : Str) (u v : V) : List (Str × V) := [(g, v), (f, u)]
def spX1 (C : Addr) (f : Str) : Sp := fun vs H Q _ => ∃ (a : Addr) (v : V), vs = [.ref a, v] ∧ H a = some (exo a C none) ∧ ∀ dx, H dx = none → dx ≠ a → Q .non (upd (upd H dx (exd dx (fld1 f v))) a (exo a C (some dx)))
def spX2 (C : Addr) (f g : Str) : Sp := fun vs H Q _ => ∃ (a : Addr) (u v : V), vs = [.ref a, u, v] ∧ H a = some (exo a C none) ∧ ∀ dx, H dx = none → dx ≠ a → Q .non (upd (upd (upd H dx (exd dx (fld1 f u))) a (exo a C (some dx))) dx (exd dx (fld2 f g u v)))
section
variable {H1 : Hp} {C : Addr} {E : XK}
/-- what a raised one with one field leaves -/
theorem raised1 {f : Str} {v : V} (k : ∀ d H', Same H1 H' → H' d = some (.xd (fld1 f v)) → E (.ref C) (some d) H') : ∀ a, H1 a = none → spX1 C f (.ref a :: ([v] ++ [])) (upd H1 a (exo a C none))
    (fun z H2 => z = .non ∧ ∃ (d : Addr) (fs : List (Str × V)), H2 a = some (exo a C (some d)) ∧ H2 d = some (exd d fs) ∧ H1 d = none ∧ E (.ref C) (some d) (upd (del H2 a) d (.xd fs))) (fun _ _ _ => False) := by
  intro a ha
  refine ⟨a, v, rfl, upd_same, fun dx hd ne => ⟨rfl, dx, _, upd_same, by rw [upd_ne ne, upd_same], by rw [← hd, upd_ne ne], ?_⟩⟩
  have h1d : H1 dx = none := by rw [← hd, upd_ne ne]
  refine k dx _ (fun b o e => ?_) upd_same
  have hb : b ≠ dx := ne_of_none e h1d
  have hb2 : b ≠ a := ne_of_none e ha
  rw [upd_ne hb, del_ne hb2, upd_ne hb2, upd_ne hb, upd_ne hb2]
  exact e
theorem raised2 {f g : Str} {u v : V} (k : ∀ d H', Same H1 H' → H' d = some (.xd (fld2 f g u v)) → E (.ref C) (some d) H') : ∀ a, H1 a = none → spX2 C f g (.ref a :: ([u, v] ++ [])) (upd H1 a (exo a C none))
    (fun z H2 => z = .non ∧ ∃ (d : Addr) (fs : List (Str × V)), H2 a = some (exo a C (some d)) ∧ H2 d = some (exd d fs) ∧ H1 d = none ∧ E (.ref C) (some d) (upd (del H2 a) d (.xd fs))) (fun _ _ _ => False) := by
  intro a ha
  refine ⟨a, u, v, rfl, upd_same, fun dx hd ne => ⟨rfl, dx, _, by rw [upd_ne (Ne.symm ne), upd_same], upd_same, by rw [← hd, upd_ne ne], ?_⟩⟩
  have h1d : H1 dx = none := by rw [← hd, upd_ne ne]
  refine k dx _ (fun b o e => ?_) upd_same
  have hb : b ≠ dx := ne_of_none e h1d
  have hb2 : b ≠ a := ne_of_none e ha
  rw [upd_ne hb, del_ne hb2, upd_ne hb, upd_ne hb2, upd_ne hb, upd_ne hb2]
  exact e
end
section
variable {X : Cx} {x : Str} {C : Addr} {ps : List Str} {sp : Sp} {e : Expr} {es : List Expr} {p pos : Pos} {ta : TA}
theorem pmk_E (G : OkE X.prog X.w X.K X.mg X.base C x ps sp) (hr : Room 2 X.A) (hg : Gl X x) (hx : Passes (L2.CX X.prog X.w) X (fun _ _ _ => False)) (ha : PA X (e :: es) ta)
    (hdb : (x == ("__debug__" : Str)) = false := by decide) (he : starEach (e :: es) X.env = (false, eval e X.env) :: starEach es X.env := by rfl) (hpl : (backTo pos (starEach es X.env)).any (·.1) = false := by rfl) :
    PMk X (.Call (.Name x p) (e :: es) [] pos) (tMkO C sp [] ta) := by
  obtain ⟨f, fd, F, b, iC, tI, hm⟩ := G.ex
  exact pmk_oex G.cls iC tI F hr b .nil hx hg hm ha hdb he hpl
/-- an own exception without __init__, called with nothing -/
theorem pmk_own0 {bmB : List Value} {B newId initId : String} (F : ExcBaseFacts B newId initId bmB) (q : PySem.W.excIn X.K C bmB newId = true) (gC : X.mg x = some (.ref C)) (kC : PySem.W.keepIn X.K (.ref C) = true) (r : Raises X (.ref C)) (hg : Gl X x)
    (hdb : (x == ("__debug__" : Str)) = false := by decide) : PMk X (.Call (.Name x p) [] [] pos) (fun _ H Q => Q (.ref C) none H) := by
  intro pins s σ H Q I h
  refine wpAny_Call_Name_kw (ld_glob I hg gC ?_ hdb)
  refine PySem.W.callWith_K0 (I.kIn) kC ?_
  show wpAny _ _ (call (.ref C) []) _ _ _
  obtain ⟨bm, N, nm, qn, bs, hdct, sn, sub, ab, col, dd, k0, k1, k2, k3, k5, mN, hC, hN, hni, T⟩ := exc_obj I.kIn q
  obtain ⟨hp, g, dr, tk, os⟩ := s
  refine wpAny_call_exc_subT F T hC hN hni (fun h' e hm => ?_) (by show 0 ≤ sizeLine; exact Nat.zero_le _)
  exact mk_of (us := []) (I.tok _) hm r h (I.hok.gone hm.new)
end
/-! ### a method called where what is raised is wished for at the slots -/
section
variable {X : Cx} {k : Nat} {C : Addr} {m : Str} {ps : List Str} {sp : Sp} {e o : Expr} {es : List Expr} {p apos pos : Pos} {t : TA} {ta : TE}
def tMethS (m : Str) (C : Addr) (sp : Sp) (E : L2.St → XK) (ta : TE) (t : TA) : TE := fun σ H Q => ta σ H fun x H1 => ∃ a dx fs, x = .ref a ∧ H1 a = some (.ins C dx fs) ∧ fs.lookup m = none ∧ t σ H1 fun vs H2 => sp (x :: vs) H2 Q (E σ)
theorem pe_mS {pl : Sem Bool} {E : L2.St → XK} (he : PE X o ta) (G : OkM X.prog X.w X.K X.mg X.base k C m ps sp) (hr : Room k X.A) (hx : ∀ σ, PassesAt (L2.CX X.prog X.w) X σ (E σ)) (ha : PA X (e :: es) t)
    (hst : starEach (e :: es) X.env = (false, eval e X.env) :: starEach es X.env := by rfl) (hpl : (backTo pos (starEach es X.env)).any (·.1) = false := by rfl)
    (ht : eval (.Call (.Attribute o m apos) (e :: es) [] pos) X.env = (do
      let ov ← eval o X.env
      standAt apos.atName
      let (f, first) ← holding [ov] (getMethod ov m pl)
      callWith pos f first (backTo pos (starEach (e :: es) X.env)) (backToKw pos (keywordEach [] X.env))) := by rfl) :
    PE X (.Call (.Attribute o m apos) (e :: es) [] pos) (tMethS m C sp E ta t) := by
  obtain ⟨f, fd, F, b, c, hm⟩ := G.ex
  refine ⟨fun pins s σ H Q I h => ?_⟩
  refine PySem.W.methodCall_KW (pl := pl) (thn (he.run pins s σ H _ I h) fun u s1 ⟨x, H1, I1, rx, a, dx, fs, ex, ea, l, q⟩ => ?_) ht
  subst ex
  obtain rfl : u = Value.ref a := rx
  refine getmeth_ok I1 ea c hm l ?_
  refine PySem.W.callWith_K (first := [.ref a]) (h₀ := X.base) I.ok.mod.kin hm.kp (thn (ha.run pos pins s1 σ H1 _ I1 q) fun us s2 ⟨vs, H2, I2, r, q2⟩ => ⟨I2.kIn, ?_⟩) hst hpl
  exact run_fnS (us := .ref a :: us) (vs := .ref a :: vs) F hr b (hx σ) I2 (.cons rfl r) q2
end
section
variable {P : Program} {w : World} {K : PySem.W.Frag} {mg : Str → Option Value} {base : Heap}
theorem okE {d : He.DefD} {C : Addr} {x : Str} {N ps : List Str} {sp : Sp} (D : Has K d) (T : OexC K C) (iC : PySem.W.findIn K (.ref C) "__init__" = some (some (.ref (He.fAd K d.at_)))) (tI : PySem.W.typeIn K (.ref (He.fAd K d.at_)) = some (.type "function")) (g : mg x = some (.ref C)) (S : FnScope N ps d.scope)
    (hb : ∀ (kV doc pm : Value) (an : Option Addr) (cdv ct : Value) (us : List Value), us.length = ps.length → bindArgs (PySem.W.fnOf d.name d.qual d.params d.body d.scope .none kV doc pm an cdv ct) ⟨us, []⟩ = pure (ps.zip us))
    (len : ∀ vs H Q E, sp vs H Q E → vs.length = ps.length)
    (hbody : ∀ (f : Addr) (cdv : Value) (A : Around) (outer : List Env) (s : Shared) (H : Hp) (vs : List V) (Q : VK) (E : XK), Room 0 (A.deeper (envOfC d.qual d.scope s.heap.objs.size f cdv)) → sp vs H Q E →
      ∃ t, PSs (cxOf (L2.CX P w) P w K mg base N d.qual d.scope f cdv A outer s H E) d.body t ∧ t { nx := fun _ H' => Q .non H', rt := Q } (start N vs) H) : OkE P w K mg base C x ps sp := by
  obtain ⟨fd, F⟩ := D
  exact ⟨⟨_, fd, F.ok S len (hbody _), F.bindsN hb, iC, tI, g⟩, T⟩
theorem sc_TooManyPieces : FnScope ["self", "found"] ["self", "found"] (defScope (inClass (top 4) 0)) := ⟨rfl, rfl, rfl, by decide +kernel, rfl, by decide +kernel, by decide +kernel⟩
theorem sc_TooLong : FnScope ["self", "found"] ["self", "found"] (defScope (inClass (top 5) 0)) := ⟨rfl, rfl, rfl, by decide +kernel, rfl, by decide +kernel, by decide +kernel⟩
theorem sc_BadStretch : FnScope ["self", "first", "last"] ["self", "first", "last"] (defScope (inClass (top 6) 0)) := ⟨rfl, rfl, rfl, by decide +kernel, rfl, by decide +kernel, by decide +kernel⟩
theorem sc_BadMoment : FnScope ["self", "moment"] ["self", "moment"] (defScope (inClass (top 7) 0)) := ⟨rfl, rfl, rfl, by decide +kernel, rfl, by decide +kernel, by decide +kernel⟩
/-- what the written part says of an own exception with an __init__ -/
structure ExT (K : PySem.W.Frag) (mg : Str → Option Value) (C : Addr) (x : Str) : Prop where
  oex : OexC K C
  ini : PySem.W.findIn K (.ref C) "__init__" = some (some (.ref (He.fAd K (x, some "__init__"))))
  fn : PySem.W.typeIn K (.ref (He.fAd K (x, some "__init__"))) = some (.type "function")
  g : mg x = some (.ref C)
  xf : XfC K C
theorem ok_TooManyPieces {C : Addr} (D : Has K (dM "TooManyPieces" "__init__" "TooManyPieces.__init__" 4 0)) (T : ExT K mg C "TooManyPieces") (n : PySem.W.findIn K (.ref C) "found" = some none) : OkE P w K mg base C "TooManyPieces" ["self", "found"] (spX1 C "found") := by
  refine okE D T.oex T.ini T.fn T.g sc_TooManyPieces (fun _ _ _ _ _ _ us hl => match us, hl with | [_, _], _ => rfl) (fun vs H Q E h => ?_) (fun f cdv A outer s H vs Q E hr h => ?_)
  · obtain ⟨a, v, rfl, _⟩ := h
    rfl
  · obtain ⟨a, v, rfl, ha, q⟩ := h
    refine ⟨_, PSs.nox (pss_one (ps_ost (pv 0) (pv 1))), ?_⟩
    exact ⟨_, rfl, _, rfl, a, C, rfl, T.oex, n, .inl ⟨ha, fun dx h1 h2 => q dx h1 h2⟩⟩
theorem ok_TooLong {C : Addr} (D : Has K (dM "TooLong" "__init__" "TooLong.__init__" 5 0)) (T : ExT K mg C "TooLong") (n : PySem.W.findIn K (.ref C) "found" = some none) : OkE P w K mg base C "TooLong" ["self", "found"] (spX1 C "found") := by
  refine okE D T.oex T.ini T.fn T.g sc_TooLong (fun _ _ _ _ _ _ us hl => match us, hl with | [_, _], _ => rfl) (fun vs H Q E h => ?_) (fun f cdv A outer s H vs Q E hr h => ?_)
  · obtain ⟨a, v, rfl, _⟩ := h
    rfl
  · obtain ⟨a, v, rfl, ha, q⟩ := h
    refine ⟨_, PSs.nox (pss_one (ps_ost (pv 0) (pv 1))), ?_⟩
    exact ⟨_, rfl, _, rfl, a, C, rfl, T.oex, n, .inl ⟨ha, fun dx h1 h2 => q dx h1 h2⟩⟩
theorem ok_BadMoment {C : Addr} (D : Has K (dM "BadMoment" "__init__" "BadMoment.__init__" 7 0)) (T : ExT K mg C "BadMoment") (n : PySem.W.findIn K (.ref C) "moment" = some none) : OkE P w K mg base C "BadMoment" ["self", "moment"] (spX1 C "moment") := by
  refine okE D T.oex T.ini T.fn T.g sc_BadMoment (fun _ _ _ _ _ _ us hl => match us, hl with | [_, _], _ => rfl) (fun vs H Q E h => ?_) (fun f cdv A outer s H vs Q E hr h => ?_)
  · obtain ⟨a, v, rfl, _⟩ := h
    rfl
  · obtain ⟨a, v, rfl, ha, q⟩ := h
    refine ⟨_, PSs.nox (pss_one (ps_ost (pv 0) (pv 1))), ?_⟩
    exact ⟨_, rfl, _, rfl, a, C, rfl, T.oex, n, .inl ⟨ha, fun dx h1 h2 => q dx h1 h2⟩⟩
theorem ok_BadStretch {C : Addr} (D : Has K (dM "BadStretch" "__init__" "BadStretch.__init__" 6 0)) (T : ExT K mg C "BadStretch") (n : PySem.W.findIn K (.ref C) "first" = some none) (n2 : PySem.W.findIn K (.ref C) "last" = some none) : OkE P w K mg base C "BadStretch" ["self", "first", "last"] (spX2 C "first" "last") := by
  refine okE D T.oex T.ini T.fn T.g sc_BadStretch (fun _ _ _ _ _ _ us hl => match us, hl with | [_, _, _], _ => rfl) (fun vs H Q E h => ?_) (fun f cdv A outer s H vs Q E hr h => ?_)
  · obtain ⟨a, u, v, rfl, _⟩ := h
    rfl
  · obtain ⟨a, u, v, rfl, ha, q⟩ := h
    refine ⟨_, PSs.nox (pss_cons (ps_ost (pv 0) (pv 1)) (pss_one (ps_ost (pv 0) (pv 2)))), ?_⟩
    refine ⟨_, rfl, _, rfl, a, C, rfl, T.oex, n, .inl ⟨ha, fun dx h1 h2 => ?_⟩⟩
    exact ⟨_, rfl, _, rfl, a, C, rfl, T.oex, n2, .inr ⟨dx, _, upd_same, by rw [upd_ne h2, upd_same], by show 1 ≤ 900; decide, q dx h1 h2⟩⟩
end
end K24

/-! part FM -/
set_option Elab.async false
set_option linter.all false
set_option maxRecDepth 100000
set_option maxHeartbeats 4000000
namespace K24
open PySem PySem.Spec PyProof.Rows L2
/-! ### dicts by names -/
abbrev kS : Str → Key := Sum.inr
def dn (ns : List Str) (vs : List V) : List (Key × V) := (ns.map kS).zip vs
theorem kS_inj {x y : Str} (h : kS x = kS y) : x = y := Sum.inr.inj h
theorem valV_dn : ∀ {ns : List Str} {vs : List V} {i : Nat} {x : Str} {v : V}, ns.Nodup → ns[i]? = some x → vs[i]? = some v → valV (dn ns vs) (kS x) = some v
  | [], _, i, x, v, _, e, _ => by simp at e
  | n :: ns, [], i, x, v, _, _, e => by simp at e
  | n :: ns, w :: vs, 0, x, v, nd, e1, e2 => by
    have e1 := Option.some.inj e1
    have e2 := Option.some.inj e2
    subst e1; subst e2
    exact valV_pos (p := (kS n, w)) rfl
  | n :: ns, w :: vs, i + 1, x, v, nd, e1, e2 => by
    obtain ⟨h1, h2⟩ := List.nodup_cons.mp nd
    have hx : x ∈ ns := List.mem_of_getElem? (by simpa using e1)
    have : ¬ (kS n, w).1 = kS x := fun z => h1 (kS_inj z ▸ hx)
    show valV ((kS n, w) :: dn ns vs) (kS x) = some v
    rw [valV_neg this]
    exact valV_dn h2 (by simpa using e1) (by simpa using e2)
theorem nd_kS {ns : List Str} (h : ns.Nodup) : (ns.map kS).Nodup := by
  induction ns with
  | nil => exact List.nodup_nil
  | cons a l ih =>
    obtain ⟨h1, h2⟩ := List.nodup_cons.mp h
    refine List.nodup_cons.mpr ⟨fun hm => ?_, ih h2⟩
    obtain ⟨y, hy, e⟩ := List.mem_map.mp hm
    exact h1 (kS_inj e ▸ hy)
theorem merge_nd : ∀ {more acc : List (Key × V)}, ((acc ++ more).map (·.1)).Nodup → mergeK acc more = acc ++ more
  | [], acc, _ => by simp [mergeK]
  | p :: r, acc, h => by
    have hn : valV acc p.1 = none := by
      cases q : valV acc p.1 with
      | none => rfl
      | some v =>
        have m := valV_in q
        rw [List.map_append, List.map_cons] at h
        exact absurd rfl ((List.nodup_append.mp h).2.2 _ m _ List.mem_cons_self)
    show mergeK (putK acc p.1 p.2) r = _
    rw [putK_new _ hn, merge_nd (by rw [List.append_assoc]; exact h), List.append_assoc]
    rfl
theorem merge_dn {ns : List Str} {vs : List V} (nd : ns.Nodup) (hl : ns.length = vs.length) : mergeK [] ((ns.map kS).zip vs) = dn ns vs := by
  have e : (((ns.map kS).zip vs).map (·.1)) = ns.map kS := by
    rw [List.map_fst_zip (by simp [hl])]
  rw [merge_nd (by rw [List.nil_append, e]; exact nd_kS nd)]
  rfl
theorem pair_refs {α : Type} {P : Addr → α → Prop} : ∀ {zs : List V} {ls : List α}, zs.length = ls.length → (∀ (i : Nat) (z : V), zs[i]? = some z → ∃ (r : Addr) (l : α), z = V.ref r ∧ ls[i]? = some l ∧ P r l) → ∃ rs : List Addr, zs = rs.map V.ref ∧ Paired P rs ls
  | [], [], _, _ => ⟨[], rfl, .nil⟩
  | z :: zs, l :: ls, hl, h => by
    obtain ⟨r, l', e1, e2, p⟩ := h 0 z rfl
    obtain rfl : l = l' := Option.some.inj e2
    obtain ⟨rs, e3, q⟩ := pair_refs (zs := zs) (ls := ls) (by simpa using hl) fun i z' e => h (i + 1) z' (by simpa using e)
    exact ⟨r :: rs, by rw [e1, e3]; rfl, .cons p q⟩
/-- tuples are kept -/
def SameT (H H' : Hp) : Prop := ∀ b xs, H b = some (.tup xs) → H' b = some (.tup xs)
theorem TT.keepT {α : Type} {f : α → List V} {H H' : Hp} {a : Addr} {xs : List α} (h : TT f H a xs) (s : SameT H H') : TT f H' a xs := by
  obtain ⟨rs, h1, h2⟩ := h
  exact ⟨rs, s _ _ h1, Paired.mapP h2 fun _ _ z => s _ _ z⟩
/-- tuples and instances are kept -/
def SameI (H H' : Hp) : Prop := ∀ b o, H b = some o → ((∃ xs, o = .tup xs) ∨ ∃ C dx fs, o = .ins C dx fs) → H' b = some o
theorem SameI.t {H H' : Hp} (s : SameI H H') : SameT H H' := fun b xs e => s b _ e (.inl ⟨xs, rfl⟩)
theorem SameI.i {H H' : Hp} (s : SameI H H') {b C dx : Addr} {fs : List (Str × V)} (e : H b = some (.ins C dx fs)) : H' b = some (.ins C dx fs) := s b _ e (.inr ⟨C, dx, fs, rfl⟩)
theorem SameI.of {H H' : Hp} (s : Same H H') : SameI H H' := fun b o e _ => s b o e
theorem SameN.toI {H H' : Hp} (s : SameN H H') : SameI H H' := fun b o e h => s b o e fun xs z => by
  rcases h with ⟨ys, h⟩ | ⟨_, _, _, h⟩ <;> rw [z] at h <;> cases h
theorem SameI.trans {H H1 H2 : Hp} (a : SameI H H1) (b : SameI H1 H2) : SameI H H2 := fun c o e h => b c o (a c o e h) h
theorem EdAt.keepI {C : Addr} {H H' : Hp} {x : Addr} {L : Mo} (h : EdAt C H x L) (s : SameI H H') : EdAt C H' x L := by
  obtain ⟨dx, tp, ps, h1, h2, h3, h4⟩ := h
  exact ⟨dx, tp, ps, s.i h1, h2.keepT s.t, h3, h4⟩
/-! ### films -/
structure Fl where
  nm : Str
  ss : List Smp
  L : Mo
def Few (L : Mo) : Prop := ∀ qs, Can qs → dens qs = L → qs.length ≤ 60
theorem few_mm {L : Mo} (h : mm false L ≤ 60) : Few L := fun qs hc hd => by
  have := can_mm hc
  rw [hd] at this
  omega
structure FlOk (f : Fl) (n : Nat) : Prop where
  nm : NmOk f.nm
  ss : SsOk f.ss
  len : f.L.length = n
  big : (n : Int) ≤ MAXL
  inn : ∀ m, some m ∈ f.L → m < tot f.ss
  mmk : mm false f.L ≤ 10000
structure FsOk (fs : List Fl) (n : Nat) : Prop where
  all : ∀ f ∈ fs, FlOk f n
  one : 1 ≤ fs.length
  four : fs.length ≤ 4
  nd : (fs.map Fl.nm).Nodup
def Ln.fl (l : Ln) : Fl := ⟨l.nm, l.ss, dens l.ps⟩
def fmF (tn dk de : Addr) (n : Int) : List (Str × V) := putF "length" (.int n) (putF "kept_edits" (.ref de) (putF "kept_samples" (.ref dk) (putF "names" (.ref tn) [])))
theorem fm_ne1 : ¬ (("names" : Str) = "length") := by decide +kernel
theorem fm_ne2 : ¬ (("names" : Str) = "kept_edits") := by decide +kernel
theorem fm_ne3 : ¬ (("names" : Str) = "kept_samples") := by decide +kernel
theorem fm_ne4 : ¬ (("kept_samples" : Str) = "length") := by decide +kernel
theorem fm_ne5 : ¬ (("kept_samples" : Str) = "kept_edits") := by decide +kernel
theorem fm_ne6 : ¬ (("kept_edits" : Str) = "length") := by decide +kernel
theorem fmF_n {tn dk de : Addr} {n : Int} : (fmF tn dk de n).lookup ("names" : Str) = some (.ref tn) := by
  unfold fmF
  rw [lookup_putF, if_neg fm_ne1, lookup_putF, if_neg fm_ne2, lookup_putF, if_neg fm_ne3, lookup_putF, if_pos rfl]
theorem fmF_s {tn dk de : Addr} {n : Int} : (fmF tn dk de n).lookup ("kept_samples" : Str) = some (.ref dk) := by
  unfold fmF
  rw [lookup_putF, if_neg fm_ne4, lookup_putF, if_neg fm_ne5, lookup_putF, if_pos rfl]
theorem fmF_e {tn dk de : Addr} {n : Int} : (fmF tn dk de n).lookup ("kept_edits" : Str) = some (.ref de) := by
  unfold fmF
  rw [lookup_putF, if_neg fm_ne6, lookup_putF, if_pos rfl]
theorem fmF_l {tn dk de : Addr} {n : Int} : (fmF tn dk de n).lookup ("length" : Str) = some (.int n) := by
  unfold fmF
  rw [lookup_putF, if_pos rfl]
theorem fmF_no {tn dk de : Addr} {n : Int} {m : Str} (h1 : ¬ m = "length") (h2 : ¬ m = "kept_edits") (h3 : ¬ m = "kept_samples") (h4 : ¬ m = "names") : (fmF tn dk de n).lookup m = none := by
  unfold fmF
  rw [lookup_putF, if_neg h1, lookup_putF, if_neg h2, lookup_putF, if_neg h3, lookup_putF, if_neg h4]
  rfl
/-- the parts of a film -/
structure FilmP (CE CF : Addr) (H : Hp) (x : Addr) (fs : List Fl) (n : Nat) (dx tn dk de : Addr) (rs es : List Addr) : Prop where
  x : H x = some (.ins CF dx (fmF tn dk de n))
  tn : H tn = some (.tup ((fs.map Fl.nm).map V.str))
  dk : H dk = some (.dK (dn (fs.map Fl.nm) (rs.map V.ref)))
  sm : Paired (fun r f => TT smV H r f.ss) rs fs
  de : H de = some (.dK (dn (fs.map Fl.nm) (es.map V.ref)))
  ed : Paired (fun e f => EdAt CE H e f.L) es fs
def FilmAt (CE CF : Addr) (H : Hp) (x : Addr) (fs : List Fl) (n : Nat) : Prop := ∃ dx tn dk de rs es, FilmP CE CF H x fs n dx tn dk de rs es
theorem FilmP.keepN {CE CF : Addr} {H H' : Hp} {x : Addr} {fs : List Fl} {n : Nat} {dx tn dk de : Addr} {rs es : List Addr} (h : FilmP CE CF H x fs n dx tn dk de rs es) (s : SameN H H') : FilmP CE CF H' x fs n dx tn dk de rs es :=
  ⟨s.ins h.x, s.tup h.tn, s.dK h.dk, Paired.mapP h.sm fun _ _ z => TT.keepN (f := smV) z s, s.dK h.de, Paired.mapP h.ed fun _ _ z => z.keepN s⟩
theorem FilmAt.keepN {CE CF : Addr} {H H' : Hp} {x : Addr} {fs : List Fl} {n : Nat} (h : FilmAt CE CF H x fs n) (s : SameN H H') : FilmAt CE CF H' x fs n := by
  obtain ⟨dx, tn, dk, de, rs, es, p⟩ := h
  exact ⟨dx, tn, dk, de, rs, es, p.keepN s⟩
theorem FilmAt.keep {CE CF : Addr} {H H' : Hp} {x : Addr} {fs : List Fl} {n : Nat} (h : FilmAt CE CF H x fs n) (s : SameF H H') : FilmAt CE CF H' x fs n := h.keepN s.n
theorem FilmAt.same {CE CF : Addr} {H H' : Hp} {x : Addr} {fs : List Fl} {n : Nat} (h : FilmAt CE CF H x fs n) (s : Same H H') : FilmAt CE CF H' x fs n := h.keepN (.of s)
structure ClF (K : PySem.W.Frag) (C : Addr) : Prop where
  cl : Cls K C
  nN : NoAttr K C "names"
  nS : NoAttr K C "kept_samples"
  nE : NoAttr K C "kept_edits"
  nL : NoAttr K C "length"
def spFilmInit (CE CF CT : Addr) : Sp := fun vs H Q E => ∃ (x dx a : Addr) (ls : List Ln) (n : Nat), vs = [.ref x, .ref a] ∧ H x = some (.ins CF dx []) ∧ LanesAt H a ls ∧ LsOk ls n ∧
  ((∀ l ∈ ls, Few (dens l.ps)) → ∀ H', (∀ b o, H b = some o → b ≠ x → H' b = some o) → FilmAt CE CF H' x (ls.map Ln.fl) n → Q .non H') ∧
  (¬ (∀ l ∈ ls, Few (dens l.ps)) → ∀ d H', Same H H' → E (.ref CT) (some d) H')
/-- Film(..), read -/
theorem fm_make {CE CF CT : Addr} {H1 : Hp} {Q : VK} {E : XK} {a : Addr} {ls : List Ln} {n : Nat} (hL : LanesAt H1 a ls) (ok : LsOk ls n)
    (k : (∀ l ∈ ls, Few (dens l.ps)) → ∀ H' x, Same H1 H' → FilmAt CE CF H' x (ls.map Ln.fl) n → Q (.ref x) H') (ke : ¬ (∀ l ∈ ls, Few (dens l.ps)) → ∀ d H', Same H1 H' → E (.ref CT) (some d) H') : ∀ x dx, H1 x = none → H1 dx = none → dx ≠ x →
    spFilmInit CE CF CT (.ref x :: ([.ref a] ++ [])) (upd (upd H1 dx (.own x)) x (.ins CF dx [])) (fun v H2 => v = .non ∧ Q (.ref x) H2) E := by
  intro x dx nx nd ne
  have s1 : Same H1 (upd (upd H1 dx (.own x)) x (.ins CF dx [])) := fun b o e => by
    rw [upd_ne (ne_of_none e nx), upd_ne (ne_of_none e nd)]
    exact e
  exact ⟨x, dx, a, ls, n, rfl, upd_same, hL.keep (.of s1), ok, fun fw H' kp fm => ⟨rfl, k fw H' x (fun b o e => kp b o (s1 b o e) (ne_of_none e nx)) fm⟩, fun nf d H' s2 => ke nf d H' (s1.trans s2)⟩
theorem can_list {CE : Addr} {H : Hp} {es : List Addr} {ls : List Ln} (h : Paired (fun e l => EdAt CE H e (dens l.ps)) es ls) : ∃ qss : List (List Pc), Paired (fun (l : Ln) qs => Can qs ∧ dens qs = dens l.ps) ls qss := by
  induction h with
  | nil => exact ⟨[], .nil⟩
  | cons h _ ih =>
    obtain ⟨dx, tp, ps, _, _, h3, h4⟩ := h
    obtain ⟨qss, q⟩ := ih
    exact ⟨ps :: qss, .cons ⟨h3, h4⟩ q⟩
/-! readings with K told, for comprehension blocks -/
section
variable {X : Cx} {K : PySem.W.Frag}
def rLen (K : PySem.W.Frag) : List V → Hp → VK → Prop := fun xs H Q => ∃ x n, xs = [x] ∧ LenV K x H n ∧ Q (.int n) H
theorem call_lenK (h : X.K = K := by rfl) : CallR X (.builtin "len") (rLen K) := h ▸ call_len
def rTupOf (K : PySem.W.Frag) : List V → Hp → VK → Prop := fun xs H Q => ∃ p ys, xs = [.ref p] ∧ ((SqL K H p ys ∧ ∀ l, H l = none → Q (.ref l) (upd H l (.tup ys))) ∨ (SqT K H p ys ∧ Q (.ref p) H))
theorem call_tupK (h : X.K = K := by rfl) : CallR X (.type "tuple") (rTupOf K) := h ▸ call_tuple_of
def rLstOf (K : PySem.W.Frag) : List V → Hp → VK → Prop := fun xs H Q => ∃ p ys, xs = [.ref p] ∧ (SqL K H p ys ∨ SqT K H p ys) ∧ ∀ l, H l = none → Q (.ref l) (upd H l (.lst ys))
theorem call_lstK (h : X.K = K := by rfl) : CallR X (.type "list") (rLstOf K) := h ▸ call_list_of
end
end K24

/-! part F1 -/
set_option Elab.async false
set_option linter.all false
set_option maxRecDepth 100000
set_option maxHeartbeats 4000000
namespace K24
open PySem PySem.Spec PyProof.Rows L2
theorem paired_memR {α β : Type} {F : α → β → Prop} {l : List α} {m : List β} (h : Paired F l m) {b : β} (hb : b ∈ m) : ∃ a ∈ l, F a b := by
  induction h with
  | nil => cases hb
  | cons h _ ih =>
    rcases List.mem_cons.mp hb with rfl | hb
    · exact ⟨_, List.mem_cons_self, h⟩
    · obtain ⟨a, ha, hf⟩ := ih hb
      exact ⟨a, List.mem_cons_of_mem _ ha, hf⟩
theorem paired_memL {α β : Type} {F : α → β → Prop} {l : List α} {m : List β} (h : Paired F l m) {a : α} (ha : a ∈ l) : ∃ b ∈ m, F a b := by
  induction h with
  | nil => cases ha
  | cons h _ ih =>
    rcases List.mem_cons.mp ha with rfl | ha
    · exact ⟨_, List.mem_cons_self, h⟩
    · obtain ⟨b, hb, hf⟩ := ih ha
      exact ⟨b, List.mem_cons_of_mem _ hb, hf⟩
/-- all but x is kept -/
def SameX (x : Addr) (H H' : Hp) : Prop := ∀ b o, H b = some o → b ≠ x → H' b = some o
theorem SameX.trans {x : Addr} {H H1 H2 : Hp} (a : SameX x H H1) (b : SameX x H1 H2) : SameX x H H2 := fun c o e n => b c o (a c o e n) n
theorem SameX.of {x : Addr} {H H' : Hp} (s : Same H H') : SameX x H H' := fun b o e _ => s b o e
theorem SameX.up {x : Addr} {H : Hp} {o : HO} : SameX x H (upd H x o) := fun b u e n => by rw [upd_ne n]; exact e
theorem ins_ne {H : Hp} {x C dx : Addr} {fs : List (Str × V)} (hx : H x = some (.ins C dx fs)) {b : Addr} {o : HO} (e : H b = some o) (h : ∀ C d f, o ≠ .ins C d f) : b ≠ x := fun z => by
  rw [z, hx] at e
  exact h _ _ _ (Option.some.inj e).symm
theorem edF_ne {tp : Addr} {n : Int} {fs : List (Str × V)} (h : fs.lookup ("pieces" : Str) = none) : edF tp n ≠ fs := fun z => by
  have := edF_p tp n
  rw [z, h] at this
  cases this
theorem SameX.ed {x C C' dx : Addr} {fs : List (Str × V)} {H H' : Hp} (s : SameX x H H') (hx : H x = some (.ins C' dx fs)) (h : fs.lookup ("pieces" : Str) = none) {e : Addr} {L : Mo} (he : EdAt C H e L) : EdAt C H' e L := by
  obtain ⟨dy, tp, ps, h1, ⟨rs, h2, h3⟩, h4, h5⟩ := he
  have ne : e ≠ x := fun z => by
    rw [z, hx] at h1
    injection h1 with h1
    injection h1 with _ _ h1
    exact edF_ne h h1.symm
  have nt : ∀ b xs, H b = some (.tup xs) → b ≠ x := fun b xs e => ins_ne hx e fun _ _ _ z => nomatch z
  exact ⟨dy, tp, ps, s _ _ h1 ne, ⟨rs, s _ _ h2 (nt _ _ h2), Paired.mapP h3 fun _ _ z => s _ _ z (nt _ _ z)⟩, h4, h5⟩
theorem SameX.tt {α : Type} {f : α → List V} {x C' dx : Addr} {fs : List (Str × V)} {H H' : Hp} (s : SameX x H H') (hx : H x = some (.ins C' dx fs)) {a : Addr} {xs : List α} (h : TT f H a xs) : TT f H' a xs := by
  obtain ⟨rs, h2, h3⟩ := h
  have nt : ∀ b xs, H b = some (.tup xs) → b ≠ x := fun b xs e => ins_ne hx e fun _ _ _ z => nomatch z
  exact ⟨rs, s _ _ h2 (nt _ _ h2), Paired.mapP h3 fun _ _ z => s _ _ z (nt _ _ z)⟩
theorem pc_ne1 : ¬ (("pieces" : Str) = "names") := by decide +kernel
theorem pc_ne2 : ¬ (("pieces" : Str) = "kept_samples") := by decide +kernel
theorem pc_ne3 : ¬ (("pieces" : Str) = "kept_edits") := by decide +kernel
section
variable {P : Program} {w : World} {K : PySem.W.Frag} {mg : Str → Option Value} {base : Heap} {CE CF CT : Addr}
theorem sc_Film___init__ : FnScope ["self", "lanes", "edits", "most", "one", "lane"] ["self", "lanes"] (defScope (inClass (top 38) 0)) := ⟨rfl, rfl, rfl, by decide +kernel, rfl, by decide +kernel, by decide +kernel⟩
theorem ok_Film_init (T : Tx K mg) (TE : ClE K mg CE) (TF : ClF K CF) (D : Has K (dM "Film" "__init__" "Film.__init__" 38 0)) (M : Mk K CF (He.fAd K ("Film", some "__init__"))) (g : mg "Film" = some (.ref CF))
    (G_read_lanes : OkG P w K mg base 8 "read_lanes" ["value"] (spLanes CE)) (G_TMP : OkE P w K mg base CT "TooManyPieces" ["self", "found"] (spX1 CT "found")) :
    OkN P w K mg base 9 CF "Film" ["self", "lanes"] (spFilmInit CE CF CT) := by
  refine okN D M g sc_Film___init__ (fun _ _ _ _ _ _ us hl => match us, hl with | [_, _], _ => rfl) (fun vs H Q E h => ?_) (fun f cdv A outer s H vs Q E hr h => ?_)
  · obtain ⟨x, dx, a, ls, n, rfl, _⟩ := h
    rfl
  · obtain ⟨x, dx, a, ls, n, rfl, hx, hL, ok, q, qe⟩ := h
    refine ⟨_, pss_cons (ps_set (i := 2) sc_Film___init__.nd rfl (Or.inl rfl) (pe_cG G_read_lanes hr rfl passL (pa_cons (pv 1) pa_nil)))
      (pss_cons (ps_set (i := 3) sc_Film___init__.nd rfl (Or.inl rfl) (pe_callB (cr_max rfl) (by rfl) T.max (by decide +kernel) (pa_cons (pe_lc (own := [("one", 4)]) rfl sc_Film___init__.nd (pi_list (pv 2)) (blkOk_by (N := ["self", "lanes", "edits", "most", "one", "lane"]) (sc := (defScope (inClass (top 38) 0))) (by decide +kernel)) (fun _ _ _ _ _ => (pg_name (i := 4) sc_Film___init__.nd rfl (Or.inl rfl))) (fun _ _ _ _ _ => pts_nil) (fun _ _ _ _ _ => (pe_callB (call_lenK (K := K)) (by rfl) T.len PySem.boot_len (pa_cons (pe_fldK (K := K) (pv 4) rfl) pa_nil)))) pa_nil)))
      (pss_cons (ps_if (pt_cmpR op_gt (pv 3) (pe_gC rfl (cI T.MAX_PIECES)) (nomark _))
        (pss_one (ps_raise rfl (takes_of rfl rfl rfl rfl) (pmk_E G_TMP (hr.mono (by decide)) rfl (passL) (pa_cons (pv 3) pa_nil))))
        pss_nil)
      (pss_cons (ps_fld (pv 0) (pe_callTy call_tuple_of (by rfl) T.tuple (by decide +kernel) (pa_cons (pe_lc (own := [("lane", 5)]) rfl sc_Film___init__.nd (pi_list (pv 1)) (blkOk_by (N := ["self", "lanes", "edits", "most", "one", "lane"]) (sc := (defScope (inClass (top 38) 0))) (by decide +kernel)) (fun _ _ _ _ _ => (pg_name (i := 5) sc_Film___init__.nd rfl (Or.inl rfl))) (fun _ _ _ _ _ => pts_nil) (fun _ _ _ _ _ => (pe_ix (ixTK (K := K)) (pv 5) pe_int (fun _ _ => rfl)))) pa_nil)) rfl)
      (pss_cons (ps_fld (pv 0) (pe_dc (own := [("lane", 5)]) rfl sc_Film___init__.nd (pi_list (pv 1)) (blkOk_by (N := ["self", "lanes", "edits", "most", "one", "lane"]) (sc := (defScope (inClass (top 38) 0))) (by decide +kernel)) (fun _ _ _ _ _ => (pg_name (i := 5) sc_Film___init__.nd rfl (Or.inl rfl))) (fun _ _ _ _ _ => pts_nil) (fun _ _ _ _ _ => (pe_ix (ixTK (K := K)) (pv 5) pe_int (fun _ _ => rfl))) (fun _ _ _ _ _ => (pe_callTy (call_tupK (K := K)) (by rfl) T.tuple (by decide +kernel) (pa_cons (pe_ix (ixTK (K := K)) (pv 5) pe_int (fun _ _ => rfl)) pa_nil)))) rfl)
      (pss_cons (ps_fld (pv 0) (pe_dictZip rfl (by rfl) T.dict (by rfl) T.zip (pa_cons (pe_fld (pv 0) rfl) (pa_cons (pv 2) pa_nil))) rfl)
      (pss_one (ps_fld (pv 0) (pe_fld (pe_ix ix_list (pv 2) pe_int (fun _ _ => rfl)) rfl) rfl))))))), ?_⟩
    have o1 := ok.one
    have o4 := ok.four
    refine ⟨_, rfl, a, ls, n, rfl, hL, ok, fun H1 b es s1 eb hE => ?_⟩
    obtain ⟨qss, hq⟩ := can_list hE
    have hel : es.length = ls.length := Paired.length hE
    have hql : ls.length = qss.length := Paired.length hq
    -- most
    refine ⟨_, rfl, b, rfl, ⟨_, SqL.of eb⟩, fun Dd hD => ?_⟩
    refine lc_vals walk_list (qss.map fun qs => V.int qs.length) (by simp; omega) hD (small_size (by simp; omega)) (fun H2 s2 => SqL.of (s2 _ _ eb)) ?_ ?_
    · rintro i y H2 H3 acc hi s2 eD ⟨rfl, ey⟩ N hN
      obtain ⟨e, h1, rfl⟩ := map_get ey
      obtain ⟨l, h2, h3⟩ := paired_get hE h1
      obtain ⟨qs, h4, h5, h6⟩ := paired_get hq h2
      obtain ⟨dy, tp, ps, i1, ⟨rs, i2, i2'⟩, i3, i4⟩ := h3.keep (.of s2)
      obtain rfl := can_inj i3 h5 (i4.trans h6.symm)
      have hl := i2'.len
      refine ⟨rfl, _, rfl, e, CE, dy, _, _, rfl, i1, TE.cl, TE.nP, edF_p _ _, _, ps.length, rfl, .inr ⟨_, SqT.of i2, by simp [hl]⟩, ?_⟩
      exact hN _ _ (by simp [h4]) (Same.refl _)
    · intro H2 s2 eD
      refine ⟨Dd, qss.map (fun qs => (qs.length : Int)), rfl, SqL.of (by rw [List.map_map]; exact eD), by simp; omega, fun m hm hmax => ?_⟩
      have s12 := s1.trans s2
      -- if most > 60
      refine ⟨_, rfl, _, _, rfl, rfl, _, rfl, ?_⟩
      by_cases hbig : (60 : Int) < m
      · rw [decide_eq_true hbig]
        refine ⟨_, rfl, by show 1 ≤ 1000; decide, raised1 fun d H' s3 _ => qe (fun hf => ?_) d H' (s12.trans s3)⟩
        obtain ⟨qs, hqs, rfl⟩ := List.mem_map.mp hm
        obtain ⟨l, hl, h5, h6⟩ := paired_memR hq hqs
        have := hf l hl qs h5 h6
        omega
      · rw [decide_eq_false hbig]
        have fw : ∀ l ∈ ls, Few (dens l.ps) := fun l hl qs hc hd => by
          obtain ⟨qs', h4, h5, h6⟩ := paired_memL hq hl
          obtain rfl := can_inj hc h5 (hd.trans h6.symm)
          have := hmax _ (List.mem_map.mpr ⟨qs, h4, rfl⟩)
          omega
        have q := q fw
        obtain ⟨rs, eL, hR⟩ := hL
        have hrl : rs.length = ls.length := Paired.length hR
        -- self.names
        refine ⟨_, rfl, a, rfl, ⟨_, SqL.of (s12 _ _ eL)⟩, fun Nd hN => ?_⟩
        refine lc_vals walk_list ((ls.map Ln.nm).map V.str) (by simp [hrl]) hN (small_size (by simp; omega)) (fun H3 s3 => SqL.of (s3 _ _ (s12 _ _ eL))) ?_ ?_
        · rintro i y H3 H4 acc hi s3 eN ⟨rfl, ey⟩ N hN
          obtain ⟨r, h1, rfl⟩ := map_get ey
          obtain ⟨l, h2, sa, pa, h3, _⟩ := paired_get hR h1
          refine ⟨rfl, _, rfl, _, _, _, _, rfl, rfl, SqT.of (s3 _ _ (s12 _ _ h3)), at0 rfl, ?_⟩
          exact hN _ _ (by simp [h2]) (Same.refl _)
        · intro H3 s3 eN
          have s13 := s12.trans s3
          refine ⟨Nd, _, rfl, .inl ⟨SqL.of eN, fun tn htn => ?_⟩⟩
          have s14 := s13.up (o := .tup ((ls.map Ln.nm).map V.str)) htn
          refine ⟨_, rfl, x, CF, dx, _, rfl, s14 _ _ hx, TF.cl, TF.nN, (by show 0 < 1000; decide), ?_⟩
          have nx : ∀ {H' : Hp} {fs : List (Str × V)} {b : Addr} {o : HO}, H' x = some (.ins CF dx fs) → H' b = some o → (∀ C d f, o ≠ .ins C d f) → b ≠ x := fun hx e h => ins_ne hx e h
          have s1t : Same H1 (upd H3 tn (.tup ((ls.map Ln.nm).map V.str))) := (s2.trans s3).up htn
          have hx1 := s1 _ _ hx
          -- self.kept_samples
          refine ⟨_, rfl, a, rfl, ⟨_, SqL.of (SameX.up _ _ (s14 _ _ eL) (nx (s14 _ _ hx) (s14 _ _ eL) fun _ _ _ z => nomatch z))⟩, fun Sd hS => ?_⟩
          generalize eH4 : upd (upd H3 tn (.tup ((ls.map Ln.nm).map V.str))) x (.ins CF dx (putF "names" (.ref tn) [])) = H4 at hS ⊢
          have x4 : H4 x = some (.ins CF dx (putF "names" (.ref tn) [])) := by rw [← eH4]; exact upd_same
          have k14 : SameX x H1 H4 := by rw [← eH4]; exact (SameX.of s1t).trans SameX.up
          have k04 : SameX x H H4 := (SameX.of s1).trans k14
          have t4 : H4 tn = some (.tup ((ls.map Ln.nm).map V.str)) := by
            rw [← eH4, upd_ne]
            · exact upd_same
            · exact nx (s14 _ _ hx) upd_same fun _ _ _ z => nomatch z
          refine dc_rel walk_list (ls.map fun l => kS l.nm) (by simp [hrl]) (by have := nd_kS ok.nd; rw [List.map_map] at this; exact this) (fun i z H' => ∃ r l, z = .ref r ∧ ls[i]? = some l ∧ TT smV H' r l.ss)
            (fun i y H5 H6 hk hF => ?_) hS (small_size (by simp; omega)) (fun H5 s5 => SqL.of (s5 _ _ (k04 _ _ eL (nx hx eL fun _ _ _ z => nomatch z)))) ?_ ?_
          · obtain ⟨r, l, e1, e2, e3⟩ := hF
            exact ⟨r, l, e1, e2, e3.keepT fun b xs e => hk b _ e (.inl fun _ z => nomatch z)⟩
          · rintro i y H5 H6 acc hi s5 eD ⟨rfl, ey⟩ N hN
            obtain ⟨r, h1, rfl⟩ := map_get ey
            obtain ⟨l, h2, sa, pa, h3, ⟨rq, h4, h5⟩, _⟩ := paired_get hR h1
            have g3 : H6 r = some (.tup [.str l.nm, .ref sa, .ref pa]) := s5 _ _ (k04 _ _ h3 (nx hx h3 fun _ _ _ z => nomatch z))
            have g4 : H6 sa = some (.lst (rq.map V.ref)) := s5 _ _ (k04 _ _ h4 (nx hx h4 fun _ _ _ z => nomatch z))
            have g5 : Tp smV H6 rq l.ss := Paired.mapP h5 fun _ _ z => s5 _ _ (k04 _ _ z (nx hx z fun _ _ _ z => nomatch z))
            refine ⟨rfl, _, rfl, _, _, _, _, rfl, rfl, SqT.of g3, at0 rfl, ?_⟩
            refine ⟨_, rfl, _, _, _, _, rfl, rfl, SqT.of g3, at1 rfl, sa, _, rfl, .inl ⟨SqL.of g4, fun q0 hq0 => ?_⟩⟩
            refine hN (kS l.nm) _ _ (by simp [h2]) ⟨q0, l, rfl, h2, rq, upd_same, Paired.mapP g5 fun _ _ z => ?_⟩ (Same.new hq0)
            rw [upd_ne (ne_of_none z hq0)]
            exact z
          · intro H5 zs s5 hzl eD hF
            obtain ⟨rq, rfl, hRq⟩ := pair_refs (P := fun r (l : Ln) => TT smV H5 r l.ss) (by rw [hzl]; simp [hrl]) hF
            have x5 := s5 _ _ x4
            refine ⟨_, rfl, x, CF, dx, _, rfl, x5, TF.cl, TF.nS, (by show 1 < 1000; decide), ?_⟩
            -- self.kept_edits
            have k56 : SameX x H5 (upd H5 x (.ins CF dx (putF "kept_samples" (.ref Sd) (putF "names" (.ref tn) [])))) := SameX.up
            generalize eH6 : upd H5 x (.ins CF dx (putF "kept_samples" (.ref Sd) (putF "names" (.ref tn) []))) = H6 at k56 ⊢
            have x6 : H6 x = some (.ins CF dx (putF "kept_samples" (.ref Sd) (putF "names" (.ref tn) []))) := by rw [← eH6]; exact upd_same
            have t5 := s5 _ _ t4
            have t6 := k56 _ _ t5 (nx x5 t5 fun _ _ _ z => nomatch z)
            have k16 : SameX x H1 H6 := (k14.trans (.of s5)).trans k56
            have b6 := k16 _ _ eb (nx hx1 eb fun _ _ _ z => nomatch z)
            have d6 := k56 _ _ eD (nx x5 eD fun _ _ _ z => nomatch z)
            have hln : (putF "kept_samples" (.ref Sd) (putF "names" (.ref tn) [])).lookup ("names" : Str) = some (.ref tn) := by rw [lookup_putF, if_neg fm_ne3, lookup_putF, if_pos rfl]
            refine ⟨_, rfl, x, CF, dx, _, _, rfl, x6, TF.cl, TF.nN, hln, _, rfl, tn, b, (ls.map Ln.nm).map kS, es.map V.ref, rfl, ?_, SqL.of b6, by simp [hel], fun p hp => ?_⟩
            · refine SqT.of ?_
              rw [t6, List.map_map, List.map_map, List.map_map]
              rfl
            rw [merge_dn ok.nd (by simp [hel])]
            have s67 : Same H6 (upd H6 p (.dK (dn (ls.map Ln.nm) (es.map V.ref)))) := Same.new hp
            generalize eH7 : upd H6 p (.dK (dn (ls.map Ln.nm) (es.map V.ref))) = H7 at s67 ⊢
            have p7 : H7 p = some (.dK (dn (ls.map Ln.nm) (es.map V.ref))) := by rw [← eH7]; exact upd_same
            have x7 := s67 _ _ x6
            refine ⟨_, rfl, x, CF, dx, _, rfl, x7, TF.cl, TF.nE, (by show 2 < 1000; decide), ?_⟩
            -- self.length
            have k78 : SameX x H7 (upd H7 x (.ins CF dx (putF "kept_edits" (.ref p) (putF "kept_samples" (.ref Sd) (putF "names" (.ref tn) []))))) := SameX.up
            generalize eH8 : upd H7 x (.ins CF dx (putF "kept_edits" (.ref p) (putF "kept_samples" (.ref Sd) (putF "names" (.ref tn) [])))) = H8 at k78 ⊢
            have x8 : H8 x = some (.ins CF dx (putF "kept_edits" (.ref p) (putF "kept_samples" (.ref Sd) (putF "names" (.ref tn) [])))) := by rw [← eH8]; exact upd_same
            have k18 : SameX x H1 H8 := (k16.trans (.of s67)).trans k78
            have b8 := k18 _ _ eb (nx hx1 eb fun _ _ _ z => nomatch z)
            have hx1f : (([] : List (Str × V))).lookup ("pieces" : Str) = none := rfl
            rcases es with _ | ⟨e0, er⟩
            · simp at hel; omega
            obtain ⟨l0, hE0, hE1⟩ := paired_get (i := 0) hE rfl
            have okl0 := ok.all l0 (List.mem_of_getElem? hE0)
            obtain ⟨d0, t0, p0, h01, _⟩ := k18.ed hx1 hx1f hE1
            refine ⟨_, rfl, b, _, _, _, rfl, rfl, SqL.of b8, at0 rfl, e0, CE, d0, _, _, rfl, h01, TE.cl, TE.nL, edF_l _ _, ?_⟩
            refine ⟨_, rfl, x, CF, dx, _, rfl, x8, TF.cl, TF.nL, (by show 3 < 1000; decide), ?_⟩
            rw [okl0.len]
            have k89 : SameX x H8 (upd H8 x (.ins CF dx (fmF tn Sd p n))) := SameX.up
            have k19 := k18.trans k89
            have k59 : SameX x H5 (upd H8 x (.ins CF dx (fmF tn Sd p n))) := ((k56.trans (.of s67)).trans k78).trans k89
            refine q _ ((SameX.of s1).trans k19) ⟨dx, tn, Sd, p, rq, e0 :: er, upd_same, ?_, ?_, ?_, ?_, ?_⟩
            · have := k59 _ _ t5 (nx x5 t5 fun _ _ _ z => nomatch z)
              refine Eq.trans this ?_
              rw [List.map_map, List.map_map, List.map_map]
              rfl
            · have := k59 _ _ eD (nx x5 eD fun _ _ _ z => nomatch z)
              refine Eq.trans this ?_
              unfold dn
              rw [List.map_map, List.map_map]
              rfl
            · have : ∀ {rq : List Addr} {ls : List Ln}, Paired (fun r (l : Ln) => TT smV H5 r l.ss) rq ls → Paired (fun r (f : Fl) => TT smV (upd H8 x (.ins CF dx (fmF tn Sd p n))) r f.ss) rq (ls.map Ln.fl) := by
                intro rq ls h
                induction h with
                | nil => exact .nil
                | cons h _ ih => exact .cons (k59.tt x5 h) ih
              exact this hRq
            · have := (k78.trans k89) _ _ p7 (nx x7 p7 fun _ _ _ z => nomatch z)
              refine Eq.trans this ?_
              rw [List.map_map]
              rfl
            · have : ∀ {es : List Addr} {ls : List Ln}, Paired (fun e (l : Ln) => EdAt CE H1 e (dens l.ps)) es ls → Paired (fun e (f : Fl) => EdAt CE (upd H8 x (.ins CF dx (fmF tn Sd p n))) e f.L) es (ls.map Ln.fl) := by
                intro es ls h
                induction h with
                | nil => exact .nil
                | cons h _ ih => exact .cons (k19.ed hx1 hx1f h) ih
              exact this hE
end
end K24

/-! part F2 -/
set_option Elab.async false
set_option linter.all false
set_option maxRecDepth 100000
set_option maxHeartbeats 4000000
namespace K24
open PySem PySem.Spec PyProof.Rows L2
def spFmLen (CL : Addr) : Sp := fun vs H Q E => ∃ (x : Addr) (m : Int), vs = [.ref x, .int m] ∧ (m ≤ MAXL → Q .non H) ∧ (MAXL < m → ∀ d H', Same H H' → H' d = some (.xd (fld1 "found" (.int m))) → E (.ref CL) (some d) H')
/-- what check_stretch asks -/
def strOk (p q : V) (n : Nat) : Prop := ∃ a b : Nat, p = .int a ∧ q = .int b ∧ a ≤ b ∧ b ≤ n
def spFmChk (CE CF CS : Addr) : Sp := fun vs H Q E => ∃ (x : Addr) (fs : List Fl) (n : Nat) (p q : V), vs = [.ref x, p, q] ∧ Sca p ∧ Sca q ∧ FilmAt CE CF H x fs n ∧ (strOk p q n → Q .non H) ∧
  (¬ strOk p q n → ∀ d H', Same H H' → H' d = some (.xd (fld2 "first" "last" p q)) → E (.ref CS) (some d) H')
theorem isI_nat {v : V} {l : Int} (h : isI v l = true) : ∃ i : Int, v = .int i ∧ l ≤ i := by
  cases v <;> simp [isI] at h
  rename_i i
  exact ⟨i, rfl, h⟩
section
variable {P : Program} {w : World} {K : PySem.W.Frag} {mg : Str → Option Value} {base : Heap} {CE CF CT CL CS : Addr}
theorem sc_Film_check_length : FnScope ["self", "length"] ["self", "length"] (defScope (inClass (top 38) 8)) := ⟨rfl, rfl, rfl, by decide +kernel, rfl, by decide +kernel, by decide +kernel⟩
theorem ok_Film_check_length (TF : ClF K CF) (D : Has K (dM "Film" "check_length" "Film.check_length" 38 8)) (M : Meth K CF "check_length" (He.fAd K ("Film", some "check_length"))) (G_TooLong : OkE P w K mg base CL "TooLong" ["self", "found"] (spX1 CL "found")) :
    OkM P w K mg base 3 CF "check_length" ["self", "length"] (spFmLen CL) := by
  refine okM D TF.cl M sc_Film_check_length (fun _ _ _ _ _ _ us hl => match us, hl with | [_, _], _ => rfl) (fun vs H Q E h => ?_) (fun f cdv A outer s H vs Q E hr h => ?_)
  · obtain ⟨x, m, rfl, _⟩ := h
    rfl
  · obtain ⟨x, m, rfl, q, qe⟩ := h
    refine ⟨_, pss_one (ps_if (pt_cmpR op_gt (pv 1) (pe_op op_pow pe_int pe_int) (nomark _))
        (pss_one (ps_raise rfl (takes_of rfl rfl rfl rfl) (pmk_E G_TooLong hr rfl passL (pa_cons (pv 1) pa_nil))))
        pss_nil), ?_⟩
    refine ⟨_, rfl, _, _, rfl, rfl, ⟨by decide, by decide, by decide⟩, _, _, rfl, rfl, _, rfl, ?_⟩
    have e9 : (10 : Int) ^ (9 : Int).toNat = MAXL := by decide +kernel
    rw [e9]
    by_cases hb : MAXL < m
    · rw [decide_eq_true hb]
      exact ⟨_, rfl, by show 1 ≤ 1000; decide, raised1 fun d H' s1 e1 => qe hb d H' s1 e1⟩
    · rw [decide_eq_false hb]
      exact q (by omega)
theorem sc_Film_check_stretch : FnScope ["self", "first", "last"] ["self", "first", "last"] (defScope (inClass (top 38) 9)) := ⟨rfl, rfl, rfl, by decide +kernel, rfl, by decide +kernel, by decide +kernel⟩
theorem ok_Film_check_stretch (TF : ClF K CF) (D : Has K (dM "Film" "check_stretch" "Film.check_stretch" 38 9)) (M : Meth K CF "check_stretch" (He.fAd K ("Film", some "check_stretch"))) (G_is_integer : OkG P w K mg base 1 "is_integer" ["value", "least"] spInt)
    (G_BadStretch : OkE P w K mg base CS "BadStretch" ["self", "first", "last"] (spX2 CS "first" "last")) :
    OkM P w K mg base 3 CF "check_stretch" ["self", "first", "last"] (spFmChk CE CF CS) := by
  refine okM D TF.cl M sc_Film_check_stretch (fun _ _ _ _ _ _ us hl => match us, hl with | [_, _, _], _ => rfl) (fun vs H Q E h => ?_) (fun f cdv A outer s H vs Q E hr h => ?_)
  · obtain ⟨x, fs, n, p, q, rfl, _⟩ := h
    rfl
  · obtain ⟨x, fs, n, p, q, rfl, sp, sq, ⟨dx, tn, dk, de, rs, es, fm⟩, k, ke⟩ := h
    refine ⟨_, pss_one (ps_if (PW.pt (pw_or (pt_not (pt_val (pe_cG G_is_integer (hr.mono (by decide)) rfl passL (pa_cons (pv 1) (pa_cons pe_int pa_nil))))) (pw_or (pt_not (pt_val (pe_cG G_is_integer (hr.mono (by decide)) rfl passL (pa_cons (pv 2) (pa_cons pe_int pa_nil))))) (pw_or1 (pt_not (pt_chain op_le op_le (pv 1) (pv 2) (pe_fld (pv 0) rfl)))))))
        (pss_one (ps_raise rfl (takes_of rfl rfl rfl rfl) (pmk_E G_BadStretch hr rfl passL (pa_cons (pv 1) (pa_cons (pv 2) pa_nil)))))
        pss_nil), ?_⟩
    refine ⟨_, rfl, _, _, rfl, sp, _, rfl, ?_⟩
    cases e1 : isI p 0 with
    | false => exact ⟨_, rfl, _, rfl, by show 2 ≤ 1000; decide, raised2 fun d H' s1 e2 => ke (fun ⟨a, b, ha, _⟩ => by rw [ha, isI_ok (by omega)] at e1; cases e1) d H' s1 e2⟩
    | true =>
      obtain ⟨i, rfl, hi⟩ := isI_nat e1
      refine ⟨_, rfl, _, _, rfl, sq, _, rfl, ?_⟩
      cases e2 : isI q 0 with
      | false => exact ⟨_, rfl, _, rfl, by show 2 ≤ 1000; decide, raised2 fun d H' s1 e3 => ke (fun ⟨a, b, _, hb, _⟩ => by rw [hb, isI_ok (by omega)] at e2; cases e2) d H' s1 e3⟩
      | true =>
        obtain ⟨j, rfl, hj⟩ := isI_nat e2
        refine ⟨_, rfl, _, rfl, _, _, rfl, rfl, _, rfl, ?_⟩
        by_cases hij : i ≤ j
        · rw [decide_eq_true hij]
          refine ⟨_, rfl, x, CF, dx, _, _, rfl, fm.x, TF.cl, TF.nL, fmF_l, _, _, rfl, rfl, _, rfl, ?_⟩
          by_cases hjn : j ≤ (n : Int)
          · rw [decide_eq_true hjn]
            exact k ⟨i.toNat, j.toNat, by congr 1; omega, by congr 1; omega, by omega, by omega⟩
          · rw [decide_eq_false hjn]
            exact ⟨_, rfl, _, rfl, by show 2 ≤ 1000; decide, raised2 fun d H' s1 e3 => ke (fun ⟨a, b, ha, hb, _, hn⟩ => by injection hb with hb; omega) d H' s1 e3⟩
        · rw [decide_eq_false hij]
          exact ⟨_, rfl, _, rfl, _, rfl, by show 2 ≤ 1000; decide, raised2 fun d H' s1 e3 => ke (fun ⟨a, b, ha, hb, hab, _⟩ => by injection hb with hb; injection ha with ha; omega) d H' s1 e3⟩
end
end K24

/-! part F3 -/
set_option Elab.async false
set_option linter.all false
set_option maxRecDepth 100000
set_option maxHeartbeats 4000000
namespace K24
open PySem PySem.Spec PyProof.Rows L2
theorem un1 {k : Nat} {A : Around} (hr : Room k A) : A.units + 1 < cLine := Nat.lt_of_le_of_lt (by omega) hr.un
def spFmWith (CE CF CT : Addr) : Sp := fun vs H Q E => ∃ (x d : Addr) (fs fs' : List Fl) (n n' : Nat) (es : List Addr), vs = [.ref x, .ref d] ∧ FilmAt CE CF H x fs n ∧ FsOk fs n ∧ H d = some (.dK (dn (fs.map Fl.nm) (es.map V.ref))) ∧
  Paired (fun e f => EdAt CE H e f.L) es fs' ∧ fs'.map Fl.nm = fs.map Fl.nm ∧ fs'.map Fl.ss = fs.map Fl.ss ∧ FsOk fs' n' ∧
  ((∀ f ∈ fs', Few f.L) → ∀ H' y, Same H H' → FilmAt CE CF H' y fs' n' → Q (.ref y) H') ∧ (¬ (∀ f ∈ fs', Few f.L) → ∀ d H', Same H H' → E (.ref CT) (some d) H')
/-- the lanes that with_edits lays -/
theorem lns_of {CE : Addr} {H : Hp} {es : List Addr} {fs : List Fl} (h : Paired (fun e f => EdAt CE H e f.L) es fs) :
    ∃ lns : List Ln, lns.map Ln.fl = fs ∧ Paired (fun e (l : Ln) => Can l.ps ∧ ∃ dx tp, H e = some (.ins CE dx (edF tp (dens l.ps).length)) ∧ TT pcV H tp l.ps) es lns := by
  induction h with
  | nil => exact ⟨[], rfl, .nil⟩
  | @cons e f es fs h _ ih =>
    obtain ⟨dx, tp, ps, h1, h2, h3, h4⟩ := h
    obtain ⟨lns, e1, q⟩ := ih
    refine ⟨⟨f.nm, f.ss, ps⟩ :: lns, ?_, .cons ⟨h3, dx, tp, by rw [h4]; exact h1, h2⟩ q⟩
    rw [List.map_cons, e1]
    unfold Ln.fl
    rw [h4]
theorem lns_ok {lns : List Ln} {n : Nat} (h : FsOk (lns.map Ln.fl) n) (hc : ∀ l ∈ lns, Can l.ps) : LsOk lns n where
  all := fun l hl => by
    have o := h.all l.fl (List.mem_map.mpr ⟨l, hl, rfl⟩)
    have c := hc l hl
    have hm := o.mmk
    have hcm := can_mm c
    have e : l.fl.L = dens l.ps := rfl
    rw [e] at hm
    exact ⟨o.nm, o.ss, c.ok, by omega, o.len, o.big, o.inn, by omega⟩
  one := by have := h.one; simpa using this
  four := by have := h.four; simpa using this
  nd := by
    have := h.nd
    rw [List.map_map] at this
    exact this
section
variable {P : Program} {w : World} {K : PySem.W.Frag} {mg : Str → Option Value} {base : Heap} {CE CF CT CL CS : Addr}
theorem sc_Film_with_edits : FnScope ["self", "edits", "name"] ["self", "edits"] (defScope (inClass (top 38) 7)) := ⟨rfl, rfl, rfl, by decide +kernel, rfl, by decide +kernel, by decide +kernel⟩
theorem ok_Film_with_edits (T : Tx K mg) (TE : ClE K mg CE) (TF : ClF K CF) (D : Has K (dM "Film" "with_edits" "Film.with_edits" 38 7)) (M : Meth K CF "with_edits" (He.fAd K ("Film", some "with_edits")))
    (G_Film : OkN P w K mg base 9 CF "Film" ["self", "lanes"] (spFilmInit CE CF CT)) : OkM P w K mg base 11 CF "with_edits" ["self", "edits"] (spFmWith CE CF CT) := by
  refine okM D TF.cl M sc_Film_with_edits (fun _ _ _ _ _ _ us hl => match us, hl with | [_, _], _ => rfl) (fun vs H Q E h => ?_) (fun f cdv A outer s H vs Q E hr h => ?_)
  · obtain ⟨x, d, fs, fs', n, n', es, rfl, _⟩ := h
    rfl
  · obtain ⟨x, d, fs, fs', n, n', es, rfl, ⟨dx, tn, dk, de, rs, es0, fm⟩, ok, hd, hE, e1, e2, ok', q, qe⟩ := h
    refine ⟨_, pss_one (ps_ret (pe_nG G_Film hr rfl (passes_call (takes_of rfl rfl rfl rfl) (fun _ _ _ _ h => h)) (pa_cons (pe_lc (own := [("name", 2)]) rfl sc_Film_with_edits.nd (pi_tup (pe_fld (pv 0) rfl)) (blkOk_by (N := ["self", "edits", "name"]) (sc := (defScope (inClass (top 38) 7))) (by decide +kernel)) (fun _ _ _ _ _ => (pg_name (i := 2) sc_Film_with_edits.nd rfl (Or.inl rfl))) (fun _ _ _ _ _ => pts_nil) (fun _ _ _ _ _ => (pe_tup (pa_cons (pv 2) (pa_cons (pe_callTy (call_lstK (K := K)) (by rfl) T.list (by decide +kernel) (pa_cons (pe_dget (un1 hr) (pe_fldK (K := K) (pv 0) rfl) (pv 2) (fun _ _ => rfl)) pa_nil)) (pa_cons (pe_callTy (call_lstK (K := K)) (by rfl) T.list (by decide +kernel) (pa_cons (pe_fldK (K := K) (pe_dget (un1 hr) (pv 1) (pv 2) (fun _ _ => rfl)) rfl) pa_nil)) pa_nil)))))) pa_nil))), ?_⟩
    obtain ⟨lns, el, hq⟩ := lns_of hE
    subst el
    have hlc : ∀ l ∈ lns, Can l.ps := fun l hl => by
      obtain ⟨e, _, h1, _⟩ := paired_memR hq hl
      exact h1
    have lok := lns_ok ok' hlc
    have hln : fs.length = lns.length := by
      have := congrArg List.length e1
      simpa using this.symm
    have h4 := lok.four
    have hes : es.length = lns.length := Paired.length hq
    have hrs : rs.length = fs.length := Paired.length fm.sm
    refine ⟨_, rfl, x, CF, dx, _, _, rfl, fm.x, TF.cl, TF.nN, fmF_n, tn, rfl, ⟨_, SqT.of fm.tn⟩, fun Dd hD => ?_⟩
    refine lc_rel walk_tup (n := ((fs.map Fl.nm).map V.str).length) (fun i y H' => ∃ r l sa pa, y = .ref r ∧ lns[i]? = some l ∧ sa ≠ Dd ∧ pa ≠ Dd ∧ H' r = some (.tup [.str l.nm, .ref sa, .ref pa]) ∧ TL smV H' sa l.ss ∧ TL pcV H' pa l.ps) (fun i y H1 H2 sd hF => ?_) hD
      (small_size (by simp; omega)) (fun H2 s2 => SqT.of (s2 _ _ fm.tn)) ?_ ?_
    · obtain ⟨r, l, sa, pa, h1, h2, h3, h4, h5, ⟨ra, h6, h7⟩, ⟨rb, h8, h9⟩⟩ := hF
      exact ⟨r, l, sa, pa, h1, h2, h3, h4, sd.tup h5, ⟨ra, sd.ne h3 h6, Paired.mapP h7 fun _ _ z => sd.tup z⟩, ⟨rb, sd.ne h4 h8, Paired.mapP h9 fun _ _ z => sd.tup z⟩⟩
    · rintro i y H1 H2 acc hi s2 eD ⟨rfl, ey⟩ N hN
      obtain ⟨nm0, hnm0, rfl⟩ : ∃ z, (fs.map Fl.nm)[i]? = some z ∧ y = .str z := by
        rw [List.getElem?_map] at ey
        cases e : (fs.map Fl.nm)[i]? with
        | none => rw [e] at ey; cases ey
        | some z => rw [e] at ey; exact ⟨z, rfl, (Option.some.inj ey).symm⟩
      obtain ⟨f, hf, rfl⟩ : ∃ f, fs[i]? = some f ∧ f.nm = nm0 := by
        rw [List.getElem?_map] at hnm0
        cases e : fs[i]? with
        | none => rw [e] at hnm0; cases hnm0
        | some z => rw [e] at hnm0; exact ⟨z, rfl, Option.some.inj hnm0⟩
      have hif : i < fs.length := (List.getElem?_eq_some_iff.mp hf).1
      obtain ⟨l, hl⟩ : ∃ l, lns[i]? = some l := ⟨_, List.getElem?_eq_getElem (by omega)⟩
      have en : l.nm = f.nm := by
        have := congrArg (fun z => z[i]?) e1
        simp [hl, hf, Ln.fl] at this
        exact this
      have es' : l.ss = f.ss := by
        have := congrArg (fun z => z[i]?) e2
        simp [hl, hf, Ln.fl] at this
        exact this
      obtain ⟨r, hr1⟩ : ∃ r, rs[i]? = some r := ⟨_, List.getElem?_eq_getElem (by omega)⟩
      obtain ⟨f', hf', rq, hr2, hr3⟩ := paired_get fm.sm hr1
      obtain rfl : f = f' := Option.some.inj (hf.symm.trans hf')
      obtain ⟨e, he1⟩ : ∃ e, es[i]? = some e := ⟨_, List.getElem?_eq_getElem (by omega)⟩
      obtain ⟨l', hl', hcan, dy, tp, he2, rt, he3, he4⟩ := paired_get hq he1
      obtain rfl : l = l' := Option.some.inj (hl.symm.trans hl')
      have vk := valV_dn ok.nd hnm0 (show (rs.map V.ref)[i]? = some (.ref r) by simp [hr1])
      have ve := valV_dn ok.nd hnm0 (show (es.map V.ref)[i]? = some (.ref e) by simp [he1])
      refine ⟨rfl, _, rfl, _, rfl, x, CF, dx, _, _, rfl, s2 _ _ fm.x, TF.cl, TF.nS, fmF_s, _, rfl, dk, .ref r, rfl, .inl ⟨_, kS f.nm, .inl (s2 _ _ fm.dk), rfl, vk.symm⟩, r, _, rfl, .inr (SqT.of (s2 _ _ hr2)), fun sa hsa => ?_⟩
      have s3 := s2.up (o := .lst (rq.map V.ref)) hsa
      refine ⟨_, rfl, _, rfl, d, .ref e, rfl, .inl ⟨_, kS f.nm, .inl (s3 _ _ hd), rfl, ve.symm⟩, e, CE, dy, _, _, rfl, s3 _ _ he2, TE.cl, TE.nP, edF_p _ _, tp, _, rfl, .inr (SqT.of (s3 _ _ he3)), fun pa hpa => ?_⟩
      have s4 := s3.up (o := .lst (rt.map V.ref)) hpa
      refine ⟨by show 3 ≤ sizeLine; rw [sizeLine_eq]; omega, fun Tu hTu => ?_⟩
      have s5 := s4.up (o := .tup [.str f.nm, .ref sa, .ref pa]) hTu
      have nsa : sa ≠ Dd := Ne.symm (ne_of_none eD hsa)
      have npa : pa ≠ Dd := Ne.symm (ne_of_none (by rw [upd_ne (Ne.symm nsa)]; exact eD) hpa)
      have g1 : (upd (upd (upd H2 sa (.lst (rq.map V.ref))) pa (.lst (rt.map V.ref))) Tu (.tup [.str f.nm, .ref sa, .ref pa])) sa = some (.lst (rq.map V.ref)) := by
        have n1 : sa ≠ pa := ne_of_none upd_same hpa
        have n2 : sa ≠ Tu := ne_of_none (show (upd (upd H2 sa (.lst (rq.map V.ref))) pa (.lst (rt.map V.ref))) sa = some (.lst (rq.map V.ref)) by rw [upd_ne n1]; exact upd_same) hTu
        rw [upd_ne n2, upd_ne n1]
        exact upd_same
      have g2 : (upd (upd (upd H2 sa (.lst (rq.map V.ref))) pa (.lst (rt.map V.ref))) Tu (.tup [.str f.nm, .ref sa, .ref pa])) pa = some (.lst (rt.map V.ref)) := by
        rw [upd_ne (ne_of_none upd_same hTu)]
        exact upd_same
      have s25 : Same H2 (upd (upd (upd H2 sa (.lst (rq.map V.ref))) pa (.lst (rt.map V.ref))) Tu (.tup [.str f.nm, .ref sa, .ref pa])) := ((Same.new hsa).up hpa).up hTu
      refine hN _ _ ⟨Tu, l, sa, pa, rfl, hl, nsa, npa, by rw [en]; exact upd_same, ⟨rq, g1, ?_⟩, ⟨rt, g2, Paired.mapP he4 fun _ _ z => s5 _ _ z⟩⟩ s25
      rw [es']
      exact Paired.mapP hr3 fun _ _ z => s5 _ _ z
    · intro H2 ys s2 eD hl hF
      obtain ⟨rl, rfl, hR⟩ := pair_refs (P := fun r (l : Ln) => LaneAt H2 r l) (ls := lns) (by rw [hl]; simp; omega) fun i z e => by
        obtain ⟨r, l, sa, pa, h1, h2, _, _, h5, h6, h7⟩ := hF i z e
        exact ⟨r, l, h1, h2, sa, pa, h5, h6, h7⟩
      have fe : (∀ f ∈ lns.map Ln.fl, Few f.L) ↔ ∀ l ∈ lns, Few (dens l.ps) := by
        constructor
        · intro h l hl
          exact h l.fl (List.mem_map.mpr ⟨l, hl, rfl⟩)
        · intro h f hf
          obtain ⟨l, hl, rfl⟩ := List.mem_map.mp hf
          exact h l hl
      refine fm_make (CE := CE) (n := n') ⟨rl, eD, hR⟩ lok (fun fw H' y s3 hy => q (fe.mpr fw) H' y (s2.trans s3) hy) fun nf d0 H' s3 => qe (fun h => nf (fe.mp h)) d0 H' (s2.trans s3)
end
end K24

/-! part F4 -/
set_option Elab.async false
set_option linter.all false
set_option maxRecDepth 100000
set_option maxHeartbeats 4000000
namespace K24
open PySem PySem.Spec PyProof.Rows L2
/-! ### names as data -/
def nmD (ns : List Str) : PyData := .tuple (ns.map PyData.str)
theorem abc_small : ∀ c ∈ ABC.cps.toList, c < 0x110000 := by decide +kernel
theorem nm_strOk {x : Str} (h : NmOk x) : PyData.strOk x = true := by
  unfold PyData.strOk
  rw [Array.all_eq_true]
  intro i hi
  exact decide_eq_true (abc_small _ (h.2.2 _ (by simp)))
theorem nm_lay : ∀ {ns : List Str}, (∀ x ∈ ns, NmOk x) → PyData.canLayAll0 (ns.map PyData.str) = true
  | [], _ => rfl
  | x :: ns, h => by
    rw [List.map_cons, PyData.canLayAll0, PyData.canLay0, nm_strOk (h x List.mem_cons_self), nm_lay fun y hy => h y (List.mem_cons_of_mem _ hy)]
    rfl
theorem nm_depth : ∀ ns : List Str, PyData.depthAll (ns.map PyData.str) ≤ 2
  | [] => by simp [PyData.depthAll]
  | x :: ns => by
    have := nm_depth ns
    simp only [List.map_cons, PyData.depthAll, PyData.depth]
    omega
theorem nm_shaped {ns : List Str} (h : ∀ x ∈ ns, NmOk x) : SeqAt.shaped (nmD ns) = true := by
  unfold SeqAt.shaped nmD
  have h1 : (PyData.tuple (ns.map PyData.str)).canLay0 = true := by rw [PyData.canLay0]; exact nm_lay h
  have h2 : (PyData.tuple (ns.map PyData.str)).depth ≤ 64 := by
    have := nm_depth ns
    simp only [PyData.depth]
    omega
  rw [h1, decide_eq_true h2]
  rfl
theorem nm_eqvAll : ∀ ns ms : List Str, PyData.eqvAll (ns.map PyData.str) (ms.map PyData.str) = decide (ns = ms)
  | [], [] => by simp [PyData.eqvAll]
  | [], _ :: _ => by simp [PyData.eqvAll]
  | _ :: _, [] => by simp [PyData.eqvAll]
  | x :: ns, y :: ms => by
    rw [List.map_cons, List.map_cons, PyData.eqvAll, nm_eqvAll ns ms, PyData.eqv]
    by_cases h : x = y
    · subst h
      simp
    · have : (x == y) = false := by simpa using h
      rw [this]
      simp [h]
theorem nm_eqv (ns ms : List Str) : PyData.eqv (nmD ns) (nmD ms) = decide (ns = ms) := by
  unfold nmD
  rw [PyData.eqv]
  exact nm_eqvAll ns ms
theorem nm_dp {K : PySem.W.Frag} {H : Hp} {a : Addr} {ns : List Str} (h : H a = some (.tup (ns.map V.str))) : Dp K H (.ref a) (nmD ns) := by
  refine .tup (SqT.of h) ?_
  clear h
  induction ns with
  | nil => exact .nil
  | cons x ns ih => exact .cons (.str x) ih
theorem mem_dn {ns : List Str} {vs : List V} {p : Key × V} (h : p ∈ dn ns vs) : ∃ (i : Nat) (x : Str) (v : V), ns[i]? = some x ∧ vs[i]? = some v ∧ p = (kS x, v) := by
  unfold dn at h
  obtain ⟨i, hi, e⟩ := List.getElem_of_mem h
  have hl := hi
  rw [List.length_zip, List.length_map] at hl
  refine ⟨i, ns[i]'(by omega), vs[i]'(by omega), List.getElem?_eq_getElem _, List.getElem?_eq_getElem _, ?_⟩
  rw [← e]
  simp [List.getElem_zip]
theorem sm_prs {s : Smp} {H : Hp} : Prs DFlat (smV s) (smV s) H := by
  refine ⟨rfl, fun i x y h1 h2 => ?_⟩
  obtain rfl : x = y := Option.some.inj (h1.symm.trans h2)
  have hm := List.mem_of_getElem? h1
  simp only [smV, List.mem_cons, List.not_mem_nil, or_false] at hm
  rcases hm with rfl | rfl | rfl
  · exact ⟨rfl, rfl, by simp [eqV]⟩
  · exact ⟨rfl, rfl, by simp [eqV]⟩
  · exact ⟨rfl, rfl, by simp [eqV]⟩
theorem tt_prs {K : PySem.W.Frag} {H : Hp} : ∀ {rs rs' : List Addr} {ss : List Smp}, Tp smV H rs ss → Tp smV H rs' ss → Prs (DTup K DFlat) (rs.map V.ref) (rs'.map V.ref) H
  | _, _, _, .nil, .nil => .nil
  | _, _, _, .cons h t, .cons h' t' => .cons ⟨_, _, _, _, rfl, rfl, SqT.of h, SqT.of h', sm_prs⟩ (tt_prs t t')
theorem tt_dtup {K : PySem.W.Frag} {H : Hp} {a b : Addr} {ss : List Smp} (ha : TT smV H a ss) (hb : TT smV H b ss) : DTup K (DTup K DFlat) (.ref a) (.ref b) H := by
  obtain ⟨rs, h1, h2⟩ := ha
  obtain ⟨rs', h3, h4⟩ := hb
  exact ⟨a, b, _, _, rfl, rfl, SqT.of h1, SqT.of h3, tt_prs h2 h4⟩
theorem SameND.t {H H' : Hp} (s : SameND H H') : SameT H H' := fun b xs e => s b _ e fun _ z => nomatch z
theorem SameND.i {H H' : Hp} (s : SameND H H') : SameI H H' := fun b o e h => s b _ e fun _ z => by
  rcases h with ⟨_, h⟩ | ⟨_, _, _, h⟩ <;> rw [z] at h <;> cases h
section
variable {CE CF : Addr} {H : Hp} {x y : Addr} {fs gs : List Fl} {n m : Nat} {dx tn dk de dx' tn' dk' de' : Addr} {rs es rs' es' : List Addr}
/-- the samples of two films of the same lanes -/
theorem sm_ddict {K : PySem.W.Frag} (nd : (fs.map Fl.nm).Nodup) (p : FilmP CE CF H x fs n dx tn dk de rs es) (q : FilmP CE CF H y gs m dx' tn' dk' de' rs' es') (en : gs.map Fl.nm = fs.map Fl.nm) (es2 : gs.map Fl.ss = fs.map Fl.ss) :
    DDict (DTup K (DTup K DFlat)) (.ref dk) (.ref dk') H := by
  have l1 : rs.length = fs.length := Paired.length p.sm
  have l2 : rs'.length = gs.length := Paired.length q.sm
  have l3 : fs.length = gs.length := by have := congrArg List.length en; simpa using this.symm
  refine ⟨dk, dk', _, _, rfl, rfl, p.dk, q.dk, by simp [dn]; omega, fun pr hm => ?_⟩
  obtain ⟨i, z, v, h1, h2, rfl⟩ := mem_dn hm
  obtain ⟨r, h3, rfl⟩ := map_get h2
  obtain ⟨f, h4, h5⟩ := paired_get p.sm h3
  have hi : i < fs.length := (List.getElem?_eq_some_iff.mp h4).1
  obtain ⟨r', h6⟩ : ∃ r', rs'[i]? = some r' := ⟨_, List.getElem?_eq_getElem (by omega)⟩
  obtain ⟨g, h7, h8⟩ := paired_get q.sm h6
  have e : g.ss = f.ss := by
    have := congrArg (fun l => l[i]?) es2
    simp [h7, h4] at this
    exact this
  rw [e] at h8
  refine ⟨.ref r', ?_, fun H' s => tt_dtup (h5.keepT s.t) (h8.keepT s.t)⟩
  rw [en]
  exact valV_dn nd h1 (by simp [h6])
theorem ed_ddict (nd : (fs.map Fl.nm).Nodup) (p : FilmP CE CF H x fs n dx tn dk de rs es) (q : FilmP CE CF H y fs m dx' tn' dk' de' rs' es') : DDict (DIns CE (EdSame CE)) (.ref de) (.ref de') H := by
  have l1 : es.length = fs.length := Paired.length p.ed
  have l2 : es'.length = fs.length := Paired.length q.ed
  refine ⟨de, de', _, _, rfl, rfl, p.de, q.de, by simp [dn]; omega, fun pr hm => ?_⟩
  obtain ⟨i, z, v, h1, h2, rfl⟩ := mem_dn hm
  obtain ⟨r, h3, rfl⟩ := map_get h2
  obtain ⟨f, h4, h5⟩ := paired_get p.ed h3
  have hi : i < fs.length := (List.getElem?_eq_some_iff.mp h4).1
  obtain ⟨r', h6⟩ : ∃ r', es'[i]? = some r' := ⟨_, List.getElem?_eq_getElem (by omega)⟩
  obtain ⟨g, h7, h8⟩ := paired_get q.ed h6
  obtain rfl : f = g := Option.some.inj (h4.symm.trans h7)
  refine ⟨.ref r', valV_dn nd h1 (by simp [h6]), fun H' s => ?_⟩
  have k5 := h5.keepI s.i
  have k8 := h8.keepI s.i
  obtain ⟨d1, t1, p1, i1, _⟩ := id k5
  obtain ⟨d2, t2, p2, i2, _⟩ := id k8
  exact ⟨r, r', d1, d2, _, _, rfl, rfl, i1, i2, f.L, k5, k8⟩
end
theorem mon_edsame {C : Addr} : ∀ a b H H', Ext H H' → EdSame C a b H → EdSame C a b H' := fun a b H H' e ⟨L, h1, h2⟩ => ⟨L, h1.keepI (.of e), h2.keepI (.of e)⟩
theorem eqG_ok {X : Cx} {k : Nat} {C : Addr} {ps : List Str} {R : Addr → Addr → Hp → Prop} (G : OkM X.prog X.w X.K X.mg X.base k C "__eq__" ps (spEq R)) : EqG X k (DIns C R) := by
  obtain ⟨f, fd, F, b, c, hm⟩ := G.ex
  exact eqG_ins F hm.at_ hm.fn b passL
theorem rcG_ok {X : Cx} {k : Nat} {C : Addr} {ps : List Str} {R : Addr → Addr → Hp → Prop} (G : OkM X.prog X.w X.K X.mg X.base k C "__eq__" ps (spEq R)) : RcG X k (DIns C R) := by
  obtain ⟨f, fd, F, b, c, hm⟩ := G.ex
  exact rcG_ins F hm.at_ hm.fn b passL
/-- what != asks of the class -/
structure NeT (K : PySem.W.Frag) (C : Addr) : Prop where
  ne : PySem.W.findIn K (.ref C) "__ne__" = some (some (.builtin "object.__ne__"))
  ob : PySem.W.mroIn K C (.type "object") = some true
theorem op_neG {X : Cx} {k : Nat} {C : Addr} {ps : List Str} {R : Addr → Addr → Hp → Prop} (N : NeT X.K C) (G : OkM X.prog X.w X.K X.mg X.base k C "__eq__" ps (spEq R)) (hr : Room (k + 1) X.A) : OpR X (compareOp .NotEq) (rNeIns C R) := by
  obtain ⟨f, fd, F, b, c, hm⟩ := G.ex
  exact op_neIns F N.ne N.ob hm.at_ hm.fn b passL hr
/-- two films of the same lanes, that lead to the same -/
def FmSame (CE CF : Addr) : Addr → Addr → Hp → Prop := fun a b H => ∃ fs n, FilmAt CE CF H a fs n ∧ FilmAt CE CF H b fs n ∧ FsOk fs n
theorem Ext.same {H H' : Hp} (e : Ext H H') : Same H H' := e
section
variable {P : Program} {w : World} {K : PySem.W.Frag} {mg : Str → Option Value} {base : Heap} {CE CF CT CL CS : Addr}
theorem sc_Film___eq__ : FnScope ["self", "other"] ["self", "other"] (defScope (inClass (top 38) 1)) := ⟨rfl, rfl, rfl, by decide +kernel, rfl, by decide +kernel, by decide +kernel⟩
theorem ok_Film_eq (T : Tx K mg) (TF : ClF K CF) (TI : InsT K CF) (D : Has K (dM "Film" "__eq__" "Film.__eq__" 38 1)) (M : Meth K CF "__eq__" (He.fAd K ("Film", some "__eq__"))) (g : mg "Film" = some (.ref CF))
    (G_eq : OkM P w K mg base 1 CE "__eq__" ["self", "other"] (spEq (EdSame CE))) : OkM P w K mg base 4 CF "__eq__" ["self", "other"] (spEq (FmSame CE CF)) := by
  refine okM D TF.cl M sc_Film___eq__ (fun _ _ _ _ _ _ us hl => match us, hl with | [_, _], _ => rfl) (fun vs H Q E h => ?_) (fun f cdv A outer s H vs Q E hr h => ?_)
  · obtain ⟨a, b, rfl, _⟩ := h
    rfl
  · obtain ⟨a, b, rfl, ⟨fs, n, ⟨dx, tn, dk, de, rs, es, p⟩, ⟨dx', tn', dk', de', rs', es', p'⟩, ok⟩, q⟩ := h
    refine ⟨_, PSs.nox (pss_cons (ps_if (PW.pt (pw_or (pt_not (pt_val (pe_callB call_isi (by rfl) T.isinstance (by decide +kernel) (pa_cons (pv 1) (pa_cons (pe_glob (v := .ref CF) rfl g rfl) pa_nil))))) (pw_or (pt_cmpR (op_neD (un64 hr)) (pe_fld (pv 0) rfl) (pe_fld (pv 1) rfl) (nomark _)) (pw_or1 (pt_cmpR (op_neDG (mon_tup (mon_tup mon_flat)) (eqG_tup (mon_tup mon_flat) (eqG_tup mon_flat eqG_flat)) hr) (pe_fld (pv 0) rfl) (pe_fld (pv 1) rfl) (nomark _))))))
        (pss_one (ps_ret pe_bl))
        pss_nil)
      (pss_one (ps_ret (pe_cmpR (op_eqG (rcG_dict (mon_ins mon_edsame) (eqG_ok G_eq)) (hr.mono (by decide))) (pe_fld (pv 0) rfl) (pe_fld (pv 1) rfl) (nomark _))))), ?_⟩
    have hnm : ∀ x ∈ fs.map Fl.nm, NmOk x := fun x hx => by
      obtain ⟨f, hf, rfl⟩ := List.mem_map.mp hx
      exact (ok.all f hf).nm
    refine ⟨_, rfl, _, _, _, _, true, rfl, .own CF, .base (.ins p'.x TF.cl TI.ha TI.hn TI.htk TI.hm), kit_self, _, rfl, ?_⟩
    refine ⟨_, rfl, a, CF, dx, _, _, rfl, p.x, TF.cl, TF.nN, fmF_n, _, rfl, b, CF, dx', _, _, rfl, p'.x, TF.cl, TF.nN, fmF_n, _, _, nm_dp p.tn, nm_dp p'.tn, nm_shaped hnm, nm_shaped hnm, _, rfl, ?_⟩
    rw [nm_eqv, decide_eq_true rfl]
    refine ⟨_, rfl, a, CF, dx, _, _, rfl, p.x, TF.cl, TF.nS, fmF_s, _, rfl, b, CF, dx', _, _, rfl, p'.x, TF.cl, TF.nS, fmF_s, sm_ddict ok.nd p p' rfl rfl, fun H1 e1 => ⟨_, rfl, ?_⟩⟩
    have r := p.keepN (.of e1)
    have r' := p'.keepN (.of e1)
    refine ⟨_, rfl, a, CF, dx, _, _, rfl, r.x, TF.cl, TF.nE, fmF_e, _, rfl, b, CF, dx', _, _, rfl, r'.x, TF.cl, TF.nE, fmF_e, ed_ddict ok.nd r r', fun H2 e2 => q H2 (e1.trans e2)⟩
end
end K24

/-! part F5 -/
set_option Elab.async false
set_option linter.all false
set_option maxRecDepth 100000
set_option maxHeartbeats 4000000
namespace K24
open PySem PySem.Spec PyProof.Rows L2
def Fl.up (G : Mo → Mo) (f : Fl) : Fl := ⟨f.nm, f.ss, G f.L⟩
/-- a change that tells no new moments and keeps the pieces few -/
def Fine (fs : List Fl) (G : Mo → Mo) (n' k : Nat) : Prop := (n' : Int) ≤ MAXL ∧ ∀ f ∈ fs, (G f.L).length = n' ∧ (∀ m, some m ∈ G f.L → some m ∈ f.L) ∧ mm false (G f.L) ≤ k
theorem up_nm {fs : List Fl} {G : Mo → Mo} : (fs.map (Fl.up G)).map Fl.nm = fs.map Fl.nm := by rw [List.map_map]; rfl
theorem up_ss {fs : List Fl} {G : Mo → Mo} : (fs.map (Fl.up G)).map Fl.ss = fs.map Fl.ss := by rw [List.map_map]; rfl
theorem Fine.ok {fs : List Fl} {G : Mo → Mo} {n n' k : Nat} (h : Fine fs G n' k) (ok : FsOk fs n) (hk : k ≤ 10000) : FsOk (fs.map (Fl.up G)) n' where
  all := fun f' hf' => by
    obtain ⟨f, hf, rfl⟩ := List.mem_map.mp hf'
    have o := ok.all f hf
    obtain ⟨h1, h2, h3⟩ := h.2 f hf
    exact ⟨o.nm, o.ss, h1, h.1, fun m hm => o.inn m (h2 m hm), Nat.le_trans h3 hk⟩
  one := by rw [List.length_map]; exact ok.one
  four := by rw [List.length_map]; exact ok.four
  nd := by rw [up_nm]; exact ok.nd
theorem Fine.few {fs : List Fl} {G : Mo → Mo} {n' : Nat} (h : Fine fs G n' 60) : ∀ f ∈ fs.map (Fl.up G), Few f.L := fun f' hf' => by
  obtain ⟨f, hf, rfl⟩ := List.mem_map.mp hf'
  exact few_mm (h.2 f hf).2.2
theorem lock_back {H H' : Hp} {d : Addr} {od : Obj} {u : HO} (hd : H d = some u) (s : Same (upd H d (.frz od u)) H') : Same H (upd H' d u) := fun c o e => by
  by_cases hc : c = d
  · rw [hc] at e ⊢
    rw [upd_same, ← e, hd]
  · rw [upd_ne hc]
    exact s _ _ (by rw [upd_ne hc]; exact e)
theorem lock_I {H : Hp} {d : Addr} {od : Obj} {kvs : List (Key × V)} (hd : H d = some (.dK kvs)) : SameI H (upd H d (.frz od (.dK kvs))) := fun c o e h => by
  rw [upd_ne]
  · exact e
  · intro z
    rw [z, hd] at e
    rcases h with ⟨_, h⟩ | ⟨_, _, _, h⟩ <;> rw [h] at e <;> cases e
theorem unlock_I {H : Hp} {d : Addr} {od : Obj} {kvs : List (Key × V)} (hd : H d = some (.frz od (.dK kvs))) : SameI H (upd H d (.dK kvs)) := fun c o e h => by
  rw [upd_ne]
  · exact e
  · intro z
    rw [z, hd] at e
    rcases h with ⟨_, h⟩ | ⟨_, _, _, h⟩ <;> rw [h] at e <;> cases e
theorem up_paired {CE : Addr} {H : Hp} {G : Mo → Mo} : ∀ {es : List Addr} {fs : List Fl}, Paired (fun e f => EdAt CE H e (G f.L)) es fs → Paired (fun e f => EdAt CE H e f.L) es (fs.map (Fl.up G))
  | _, _, .nil => .nil
  | _, _, .cons h t => .cons h (up_paired t)
theorem dn_get {ns : List Str} {vs : List V} {i : Nat} {p : Key × V} (h : (dn ns vs)[i]? = some p) : ∃ x v, ns[i]? = some x ∧ vs[i]? = some v ∧ p = (kS x, v) := by
  unfold dn at h
  rw [List.getElem?_zip_eq_some] at h
  obtain ⟨h1, h2⟩ := h
  rw [List.getElem?_map] at h1
  cases e : ns[i]? with
  | none => rw [e] at h1; cases h1
  | some x =>
    rw [e] at h1
    have h1 := Option.some.inj h1
    exact ⟨x, p.2, rfl, h2, by rw [show kS x = p.1 from h1]⟩
theorem pg_tupK {X : Cx} {K : PySem.W.Frag} {es : List Expr} {k n : Nat} {t : TGs} {pos : Pos} (hc : X.calm = true) (h : PGs X es t) (hK : X.K = K := by rfl)
    (hn : (assignEach es X.env).length = n := by rfl) (hst : (assignEach es X.env).findIdx? (·.1) = none := by rfl) : PG X (.Tuple es k pos) (gTup K n t) := hK ▸ pg_tup hc h hn hst
def spFmCut (CE CF : Addr) : Sp := fun vs H Q _ => ∃ (x : Addr) (fs : List Fl) (n a b n' : Nat), vs = [.ref x, .int a, .int b] ∧ FilmAt CE CF H x fs n ∧ FsOk fs n ∧ a ≤ b ∧ b ≤ n ∧ (∀ f ∈ fs, mm false f.L ≤ 1000) ∧ Fine fs (fun L => cutL L a b) n' 60 ∧
  ∀ H' y, Same H H' → FilmAt CE CF H' y (fs.map (Fl.up fun L => cutL L a b)) n' → Q (.ref y) H'
def spFmFas (CE CF : Addr) : Sp := fun vs H Q _ => ∃ (x : Addr) (fs : List Fl) (n a b c n' : Nat), vs = [.ref x, .int a, .int b, .int c] ∧ FilmAt CE CF H x fs n ∧ FsOk fs n ∧ a ≤ b ∧ b ≤ n ∧ 1 ≤ c ∧ c ≤ 1000 ∧ (∀ f ∈ fs, mm false f.L ≤ 1000) ∧ Fine fs (fun L => fasL L a b c) n' 60 ∧
  ∀ H' y, Same H H' → FilmAt CE CF H' y (fs.map (Fl.up fun L => fasL L a b c)) n' → Q (.ref y) H'
theorem fm_m {tn dk de : Addr} {n : Int} : (fmF tn dk de n).lookup ("check_stretch" : Str) = none := fmF_no (by decide +kernel) (by decide +kernel) (by decide +kernel) (by decide +kernel)
theorem fm_w {tn dk de : Addr} {n : Int} : (fmF tn dk de n).lookup ("with_edits" : Str) = none := fmF_no (by decide +kernel) (by decide +kernel) (by decide +kernel) (by decide +kernel)
theorem fm_l {tn dk de : Addr} {n : Int} : (fmF tn dk de n).lookup ("check_length" : Str) = none := fmF_no (by decide +kernel) (by decide +kernel) (by decide +kernel) (by decide +kernel)
section
variable {P : Program} {w : World} {K : PySem.W.Frag} {mg : Str → Option Value} {base : Heap} {CE CF CT CL CS : Addr}
theorem sc_Film_cut : FnScope ["self", "first", "last", "name", "one"] ["self", "first", "last"] (defScope (inClass (top 38) 10)) := ⟨rfl, rfl, rfl, by decide +kernel, rfl, by decide +kernel, by decide +kernel⟩
theorem ok_Film_cut (T : Tx K mg) (TF : ClF K CF) (D : Has K (dM "Film" "cut" "Film.cut" 38 10)) (M : Meth K CF "cut" (He.fAd K ("Film", some "cut"))) (G_check_stretch : OkM P w K mg base 3 CF "check_stretch" ["self", "first", "last"] (spFmChk CE CF CS))
    (G_with_edits : OkM P w K mg base 11 CF "with_edits" ["self", "edits"] (spFmWith CE CF CT)) (G_cut : OkM P w K mg base 6 CE "cut" ["self", "first", "last"] (spEdOp CE cutL)) :
    OkM P w K mg base 12 CF "cut" ["self", "first", "last"] (spFmCut CE CF) := by
  refine okM D TF.cl M sc_Film_cut (fun _ _ _ _ _ _ us hl => match us, hl with | [_, _, _], _ => rfl) (fun vs H Q E h => ?_) (fun f cdv A outer s H vs Q E hr h => ?_)
  · obtain ⟨x, fs, n, a, b, n', rfl, _⟩ := h
    rfl
  · obtain ⟨x, fs, n, a, b, n', rfl, ⟨dx, tn, dk, de, rs, es, p⟩, ok, hab, hb, hmm, fine, q⟩ := h
    refine ⟨_, PSs.nox (pss_cons (ps_expr (pe_mG (pv 0) G_check_stretch (hr.mono (by decide)) passL (pa_cons (pv 1) (pa_cons (pv 2) pa_nil))))
      (pss_one (ps_ret (pe_mG (pv 0) G_with_edits hr passL (pa_cons (pe_lock (pe_dc (own := [("name", 3), ("one", 4)]) rfl sc_Film_cut.nd (pi_items (pe_fld (pv 0) rfl)) (blkOk_by (N := ["self", "first", "last", "name", "one"]) (sc := (defScope (inClass (top 38) 10))) (by decide +kernel)) (fun _ _ _ _ _ => (pg_tupK (K := K) (n := 2) rfl (pgs_cons (pg_name (i := 3) sc_Film_cut.nd rfl (Or.inl rfl)) (pgs_cons (pg_name (i := 4) sc_Film_cut.nd rfl (Or.inl rfl)) pgs_nil)))) (fun _ _ _ _ _ => pts_nil) (fun _ _ _ _ _ => (pv 3)) (fun _ _ _ _ _ => (pe_mG (pv 4) G_cut (hr.mono (by decide)) passL (pa_cons (pv 1) (pa_cons (pv 2) pa_nil)))))) pa_nil))))), ?_⟩
    refine ⟨_, rfl, x, dx, _, rfl, p.x, fm_m, _, rfl, _, rfl, x, fs, n, _, _, rfl, .inr (.inr ⟨_, rfl⟩), .inr (.inr ⟨_, rfl⟩), ⟨dx, tn, dk, de, rs, es, p⟩, fun _ => ?_, fun bad => absurd ⟨a, b, rfl, rfl, hab, hb⟩ bad⟩
    have hE := p.ed
    have l1 : es.length = fs.length := Paired.length p.ed
    have o4 := ok.four
    refine ⟨_, rfl, x, dx, _, rfl, p.x, fm_w, de, _, p.de, True.intro, fun od => ?_⟩
    have sI := lock_I (od := od) p.de
    refine ⟨_, rfl, x, CF, dx, _, _, rfl, sI.i p.x, TF.cl, TF.nE, fmF_e, de, od, _, rfl, upd_same, fun Dd hD => ?_⟩
    have hHd : H Dd = none := by
      by_cases z : Dd = de
      · rw [z, upd_same] at hD
        cases hD
      · rw [upd_ne z] at hD
        exact hD
    have nD : Dd ≠ de := fun z => by rw [z, p.de] at hHd; cases hHd
    refine dc_rel walk_items ((fs.map Fl.nm).map kS) (by simp [dn]; omega) (nd_kS ok.nd) (fun i z H' => ∃ r f, z = .ref r ∧ fs[i]? = some f ∧ EdAt CE H' r (cutL f.L a b)) (fun i y H1 H2 hk hF => ?_) hD (small_size (by simp [dn]; omega)) (fun H1 s1 => s1 _ _ upd_same) ?_ ?_
    · obtain ⟨r, f, e1, e2, e3⟩ := hF
      exact ⟨r, f, e1, e2, e3.keepI fun c o e h => hk c o e (.inl fun kvs z => by rcases h with ⟨_, h⟩ | ⟨_, _, _, h⟩ <;> rw [z] at h <;> cases h)⟩
    · rintro i y H1 H2 acc hi s1 eD ⟨U, u1, u2, rfl, hU, rfl, e1, e2⟩ N hN
      obtain ⟨pr, hpr⟩ : ∃ pr, (dn (fs.map Fl.nm) (es.map V.ref))[i]? = some pr := ⟨_, List.getElem?_eq_getElem hi⟩
      obtain ⟨z, v, g1, g2, rfl⟩ := dn_get hpr
      obtain ⟨e, g3, rfl⟩ := map_get g2
      obtain ⟨f, g4, g5⟩ := paired_get p.ed g3
      dsimp only at e1 e2
      rw [hpr] at e1 e2
      obtain rfl : V.str z = u1 := Option.some.inj e1
      obtain rfl : V.ref e = u2 := Option.some.inj e2
      have hf : f ∈ fs := List.mem_of_getElem? g4
      have o := ok.all f hf
      have s2 := s1.up (o := .tup [.str z, .ref e]) hU
      have he : EdAt CE (upd H1 U (.tup [.str z, .ref e])) e f.L := (g5.keepI sI).keep (.of s2)
      obtain ⟨dy, ty, py, i1, i2⟩ := id he
      refine ⟨U, _, rfl, SqT.of upd_same, rfl, _, _, rfl, _, _, rfl, rfl, rfl, ?_⟩
      refine ⟨_, rfl, _, rfl, e, dy, _, rfl, i1, edF_no _ _ (by decide +kernel) (by decide +kernel), _, rfl, _, rfl, e, f.L, a, b, rfl, he, hab, by rw [o.len]; exact hb, by rw [o.len]; exact o.big, hmm f hf, fun H3 y s3 hy => ?_⟩
      exact hN (kS z) (.ref y) H3 (by rw [List.getElem?_map, g1]; rfl) ⟨y, f, rfl, g4, hy⟩ ((Same.new hU).trans s3)
    · intro H1 zs s1 hzl eD hF
      have fz := s1 _ _ (show upd H de (.frz od (.dK (dn (fs.map Fl.nm) (es.map V.ref)))) de = some (.frz od (.dK (dn (fs.map Fl.nm) (es.map V.ref)))) from upd_same)
      refine ⟨fz, ?_⟩
      have sB := lock_back p.de s1
      obtain ⟨es', rfl, hE'⟩ := pair_refs (P := fun r (f : Fl) => EdAt CE H1 r (cutL f.L a b)) (ls := fs) (by rw [hzl]; simp [dn]; omega) hF
      have fok := fine.ok ok (by omega)
      refine ⟨x, Dd, fs, fs.map (Fl.up fun L => cutL L a b), n, n', es', rfl, (FilmAt.same ⟨dx, tn, dk, de, rs, es, p⟩ sB), ok, by rw [upd_ne nD]; exact eD, ?_, up_nm, up_ss, fok, fun _ H2 y s2 hy => q H2 y (sB.trans s2) hy, fun bad => absurd fine.few bad⟩
      exact up_paired (G := fun L => cutL L a b) (Paired.mapP hE' fun _ _ z => z.keepI (unlock_I fz))
theorem sc_Film_faster : FnScope ["self", "first", "last", "factor", "name", "one"] ["self", "first", "last", "factor"] (defScope (inClass (top 38) 11)) := ⟨rfl, rfl, rfl, by decide +kernel, rfl, by decide +kernel, by decide +kernel⟩
theorem ok_Film_faster (T : Tx K mg) (TF : ClF K CF) (D : Has K (dM "Film" "faster" "Film.faster" 38 11)) (M : Meth K CF "faster" (He.fAd K ("Film", some "faster"))) (G_check_stretch : OkM P w K mg base 3 CF "check_stretch" ["self", "first", "last"] (spFmChk CE CF CS))
    (G_with_edits : OkM P w K mg base 11 CF "with_edits" ["self", "edits"] (spFmWith CE CF CT)) (G_faster : OkM P w K mg base 6 CE "faster" ["self", "first", "last", "factor"] (spEdFas CE)) :
    OkM P w K mg base 12 CF "faster" ["self", "first", "last", "factor"] (spFmFas CE CF) := by
  refine okM D TF.cl M sc_Film_faster (fun _ _ _ _ _ _ us hl => match us, hl with | [_, _, _, _], _ => rfl) (fun vs H Q E h => ?_) (fun f cdv A outer s H vs Q E hr h => ?_)
  · obtain ⟨x, fs, n, a, b, c, n', rfl, _⟩ := h
    rfl
  · obtain ⟨x, fs, n, a, b, c, n', rfl, ⟨dx, tn, dk, de, rs, es, p⟩, ok, hab, hb, hc1, hc2, hmm, fine, q⟩ := h
    refine ⟨_, PSs.nox (pss_cons (ps_expr (pe_mG (pv 0) G_check_stretch (hr.mono (by decide)) passL (pa_cons (pv 1) (pa_cons (pv 2) pa_nil))))
      (pss_one (ps_ret (pe_mG (pv 0) G_with_edits hr passL (pa_cons (pe_lock (pe_dc (own := [("name", 4), ("one", 5)]) rfl sc_Film_faster.nd (pi_items (pe_fld (pv 0) rfl)) (blkOk_by (N := ["self", "first", "last", "factor", "name", "one"]) (sc := (defScope (inClass (top 38) 11))) (by decide +kernel)) (fun _ _ _ _ _ => (pg_tupK (K := K) (n := 2) rfl (pgs_cons (pg_name (i := 4) sc_Film_faster.nd rfl (Or.inl rfl)) (pgs_cons (pg_name (i := 5) sc_Film_faster.nd rfl (Or.inl rfl)) pgs_nil)))) (fun _ _ _ _ _ => pts_nil) (fun _ _ _ _ _ => (pv 4)) (fun _ _ _ _ _ => (pe_mG (pv 5) G_faster (hr.mono (by decide)) passL (pa_cons (pv 1) (pa_cons (pv 2) (pa_cons (pv 3) pa_nil))))))) pa_nil))))), ?_⟩
    refine ⟨_, rfl, x, dx, _, rfl, p.x, fm_m, _, rfl, _, rfl, x, fs, n, _, _, rfl, .inr (.inr ⟨_, rfl⟩), .inr (.inr ⟨_, rfl⟩), ⟨dx, tn, dk, de, rs, es, p⟩, fun _ => ?_, fun bad => absurd ⟨a, b, rfl, rfl, hab, hb⟩ bad⟩
    have hE := p.ed
    have l1 : es.length = fs.length := Paired.length p.ed
    have o4 := ok.four
    refine ⟨_, rfl, x, dx, _, rfl, p.x, fm_w, de, _, p.de, True.intro, fun od => ?_⟩
    have sI := lock_I (od := od) p.de
    refine ⟨_, rfl, x, CF, dx, _, _, rfl, sI.i p.x, TF.cl, TF.nE, fmF_e, de, od, _, rfl, upd_same, fun Dd hD => ?_⟩
    have hHd : H Dd = none := by
      by_cases z : Dd = de
      · rw [z, upd_same] at hD
        cases hD
      · rw [upd_ne z] at hD
        exact hD
    have nD : Dd ≠ de := fun z => by rw [z, p.de] at hHd; cases hHd
    refine dc_rel walk_items ((fs.map Fl.nm).map kS) (by simp [dn]; omega) (nd_kS ok.nd) (fun i z H' => ∃ r f, z = .ref r ∧ fs[i]? = some f ∧ EdAt CE H' r (fasL f.L a b c)) (fun i y H1 H2 hk hF => ?_) hD (small_size (by simp [dn]; omega)) (fun H1 s1 => s1 _ _ upd_same) ?_ ?_
    · obtain ⟨r, f, e1, e2, e3⟩ := hF
      exact ⟨r, f, e1, e2, e3.keepI fun c o e h => hk c o e (.inl fun kvs z => by rcases h with ⟨_, h⟩ | ⟨_, _, _, h⟩ <;> rw [z] at h <;> cases h)⟩
    · rintro i y H1 H2 acc hi s1 eD ⟨U, u1, u2, rfl, hU, rfl, e1, e2⟩ N hN
      obtain ⟨pr, hpr⟩ : ∃ pr, (dn (fs.map Fl.nm) (es.map V.ref))[i]? = some pr := ⟨_, List.getElem?_eq_getElem hi⟩
      obtain ⟨z, v, g1, g2, rfl⟩ := dn_get hpr
      obtain ⟨e, g3, rfl⟩ := map_get g2
      obtain ⟨f, g4, g5⟩ := paired_get p.ed g3
      dsimp only at e1 e2
      rw [hpr] at e1 e2
      obtain rfl : V.str z = u1 := Option.some.inj e1
      obtain rfl : V.ref e = u2 := Option.some.inj e2
      have hf : f ∈ fs := List.mem_of_getElem? g4
      have o := ok.all f hf
      have s2 := s1.up (o := .tup [.str z, .ref e]) hU
      have he : EdAt CE (upd H1 U (.tup [.str z, .ref e])) e f.L := (g5.keepI sI).keep (.of s2)
      obtain ⟨dy, ty, py, i1, i2⟩ := id he
      refine ⟨U, _, rfl, SqT.of upd_same, rfl, _, _, rfl, _, _, rfl, rfl, rfl, ?_⟩
      refine ⟨_, rfl, _, rfl, e, dy, _, rfl, i1, edF_no _ _ (by decide +kernel) (by decide +kernel), _, rfl, _, rfl, _, rfl, e, f.L, a, b, c, rfl, he, hab, by rw [o.len]; exact hb, hc1, hc2, by rw [o.len]; exact o.big, hmm f hf, fun H3 y s3 hy => ?_⟩
      exact hN (kS z) (.ref y) H3 (by rw [List.getElem?_map, g1]; rfl) ⟨y, f, rfl, g4, hy⟩ ((Same.new hU).trans s3)
    · intro H1 zs s1 hzl eD hF
      have fz := s1 _ _ (show upd H de (.frz od (.dK (dn (fs.map Fl.nm) (es.map V.ref)))) de = some (.frz od (.dK (dn (fs.map Fl.nm) (es.map V.ref)))) from upd_same)
      refine ⟨fz, ?_⟩
      have sB := lock_back p.de s1
      obtain ⟨es', rfl, hE'⟩ := pair_refs (P := fun r (f : Fl) => EdAt CE H1 r (fasL f.L a b c)) (ls := fs) (by rw [hzl]; simp [dn]; omega) hF
      have fok := fine.ok ok (by omega)
      refine ⟨x, Dd, fs, fs.map (Fl.up fun L => fasL L a b c), n, n', es', rfl, (FilmAt.same ⟨dx, tn, dk, de, rs, es, p⟩ sB), ok, by rw [upd_ne nD]; exact eD, ?_, up_nm, up_ss, fok, fun _ H2 y s2 hy => q H2 y (sB.trans s2) hy, fun bad => absurd fine.few bad⟩
      exact up_paired (G := fun L => fasL L a b c) (Paired.mapP hE' fun _ _ z => z.keepI (unlock_I fz))
end
end K24

/-! part F6 -/
set_option Elab.async false
set_option linter.all false
set_option maxRecDepth 100000
set_option maxHeartbeats 4000000
namespace K24
open PySem PySem.Spec PyProof.Rows L2
def repL (L : Mo) (a b t : Nat) : Mo := L.take a ++ (List.replicate t (midL L a b)).flatten ++ L.drop b
def putL (L M : Mo) (a : Nat) : Mo := L.take a ++ M ++ L.drop a
theorem dens_rep (t : Nat) (qs : List Pc) : dens (List.replicate t qs).flatten = (List.replicate t (dens qs)).flatten := by
  induction t with
  | zero => rfl
  | succ t ih => rw [List.replicate_succ, List.flatten_cons, dens_app, ih, List.replicate_succ, List.flatten_cons]
theorem paired_rep {α β : Type} {F : α → β → Prop} {l : List α} {m : List β} (h : Paired F l m) : ∀ t, Paired F (List.replicate t l).flatten (List.replicate t m).flatten
  | 0 => .nil
  | t + 1 => by
    rw [List.replicate_succ, List.flatten_cons, List.replicate_succ, List.flatten_cons]
    exact paired_append h (paired_rep h t)
theorem map_rep (t : Nat) (rs : List Addr) : (List.replicate t (rs.map V.ref)).flatten = ((List.replicate t rs).flatten).map V.ref := by
  induction t with
  | zero => rfl
  | succ t ih => rw [List.replicate_succ, List.flatten_cons, ih, List.replicate_succ, List.flatten_cons, List.map_append]
theorem len_rep {α : Type} (t : Nat) (l : List α) : (List.replicate t l).flatten.length = t * l.length := by
  induction t with
  | zero => simp
  | succ t ih => rw [List.replicate_succ, List.flatten_cons, List.length_append, ih, Nat.succ_mul]; omega
theorem mem_rep {α : Type} {t : Nat} {l : List α} {x : α} (h : x ∈ (List.replicate t l).flatten) : x ∈ l := by
  obtain ⟨y, hy, hx⟩ := List.mem_flatten.mp h
  rw [List.eq_of_mem_replicate hy] at hx
  exact hx
theorem mm_rep_le (t : Nat) (L : Mo) : mm false (List.replicate t L).flatten ≤ t * mm false L := by
  induction t with
  | zero => simp [mm]
  | succ t ih =>
    rw [List.replicate_succ, List.flatten_cons, Nat.succ_mul]
    have := (mm_app L (List.replicate t L).flatten false).1
    omega
theorem mid_len {L : Mo} {a b : Nat} (hb : b ≤ L.length) : (midL L a b).length = b - a := by
  unfold midL
  rw [List.length_drop, List.length_take]
  omega
theorem rep_len {L : Mo} {a b t : Nat} (hab : a ≤ b) (hb : b ≤ L.length) : (repL L a b t).length = L.length - (b - a) + t * (b - a) := by
  unfold repL
  rw [List.length_append, List.length_append, len_rep, mid_len hb, List.length_drop, List.length_take]
  omega
theorem rep_mem {L : Mo} {a b t : Nat} {x : Option Int} (h : x ∈ repL L a b t) : x ∈ L := by
  unfold repL at h
  rcases List.mem_append.mp h with h | h
  · rcases List.mem_append.mp h with h | h
    · exact List.mem_of_mem_take h
    · have := mem_rep h
      unfold midL at this
      exact List.mem_of_mem_take (List.mem_of_mem_drop this)
  · exact List.mem_of_mem_drop h
theorem mm_take (L : Mo) (k : Nat) : mm false (L.take k) ≤ mm false L + 1 := by
  have := (mm_app (L.take k) (L.drop k) false).2
  rw [List.take_append_drop] at this
  omega
theorem mm_mid (L : Mo) (a b : Nat) : mm false (midL L a b) ≤ mm false L + 1 := by
  unfold midL
  have h1 := mm_drop a (L.take b) false
  have h2 := mm_take L b
  omega
theorem mm_repL (L : Mo) (a b t : Nat) : mm false (repL L a b t) ≤ 2 * mm false L + 1 + t * (mm false L + 1) := by
  unfold repL
  have h1 := (mm_app (L.take a ++ (List.replicate t (midL L a b)).flatten) (L.drop b) false).1
  have h2 := (mm_app (L.take a) (List.replicate t (midL L a b)).flatten false).1
  have h3 := mm_take L a
  have h4 := mm_drop b L false
  have h5 := mm_rep_le t (midL L a b)
  have h6 := mm_mid L a b
  have h7 := Nat.mul_le_mul_left t h6
  omega
theorem due_eq {n a b t : Nat} (hab : a ≤ b) (hb : b ≤ n) : ((n - (b - a) + t * (b - a) : Nat) : Int) = (n : Int) + ((b : Int) - a) * ((t : Int) - 1) := by
  obtain ⟨d, rfl⟩ := Nat.exists_eq_add_of_le hab
  have e : a + d - a = d := by omega
  rw [e]
  have e2 : (((a + d : Nat) : Int) - a) = d := by omega
  rw [e2, Int.mul_sub, Int.mul_one, Int.natCast_add, Int.natCast_mul, Int.mul_comm (t : Int)]
  omega
/-- ed_make, the object by its address -/
theorem ed_makeA {C : Addr} {H1 : Hp} {Q : Addr → Hp → Prop} {E : XK} {a : Addr} {ps : List Pc} (hL : TL pcV H1 a ps) (ok : ∀ p ∈ ps, Pok p) (hl : ps.length ≤ 100000) (hz : ((dens ps).length : Int) ≤ MAXL)
    (k : ∀ H' x, Same H1 H' → EdAt C H' x (dens ps) → Q x H') : ∀ x dx, H1 x = none → H1 dx = none → dx ≠ x →
    spEdInit C (.ref x :: ([.ref a] ++ [])) (upd (upd H1 dx (.own x)) x (.ins C dx [])) (fun v H2 => v = .non ∧ Q x H2) E := by
  intro x dx h1 h2 h3
  obtain ⟨x', b, c, d, e1, e2, e3, e4, e5, e6, e7⟩ := ed_make (E := E) (Q := fun v H' => ∀ x, v = V.ref x → Q x H') hL ok hl hz (fun H' y s hy x e => by cases e; exact k H' y s hy) x dx h1 h2 h3
  exact ⟨x', b, c, d, e1, e2, e3, e4, e5, e6, fun H' kp ed => ⟨rfl, (e7 H' kp ed).2 x rfl⟩⟩
/-- list(one.stretch(..).pieces) -/
theorem stretch_list {CE : Addr} {K : PySem.W.Frag} {mg : Str → Option Value} (TE : ClE K mg CE) {H : Hp} {e : Addr} {L : Mo} {a b : Nat} (he : EdAt CE H e L) (hab : a ≤ b) (hb : b ≤ L.length) (hB : (L.length : Int) ≤ MAXL) (hm : mm false L ≤ 1000) {N : VK} {E : XK}
    (k : ∀ H' l qs, Same H H' → TL pcV H' l qs → Can qs → dens qs = midL L a b → N (.ref l) H') :
    spEdOp CE midL [.ref e, .int a, .int b] H (fun x H1 => ∃ (y C dx : Addr) (fs : List (Str × V)) (v : V), x = .ref y ∧ H1 y = some (.ins C dx fs) ∧ Cls K C ∧ NoAttr K C "pieces" ∧ fs.lookup ("pieces" : Str) = some v ∧ rLstOf K [v] H1 N) E := by
  refine ⟨e, L, a, b, rfl, he, hab, hb, hB, hm, fun H1 y s1 hy => ?_⟩
  obtain ⟨dy, tp, qs, h1, ⟨rs, h2, h3⟩, h4, h5⟩ := hy
  refine ⟨y, CE, dy, _, _, rfl, h1, TE.cl, TE.nP, edF_p _ _, tp, _, rfl, .inr (SqT.of h2), fun l hl => ?_⟩
  have s2 := s1.up (o := .lst (rs.map V.ref)) hl
  exact k _ l qs s2 ⟨rs, upd_same, Paired.mapP h3 fun _ _ z => by rw [upd_ne (ne_of_none z hl)]; exact z⟩ h4 h5
/-- one.stretch(..).pieces -/
theorem stretch_tup {CE : Addr} {K : PySem.W.Frag} {mg : Str → Option Value} (TE : ClE K mg CE) {H : Hp} {e : Addr} {L : Mo} {a b : Nat} (he : EdAt CE H e L) (hab : a ≤ b) (hb : b ≤ L.length) (hB : (L.length : Int) ≤ MAXL) (hm : mm false L ≤ 1000) {N : VK} {E : XK}
    (k : ∀ H' l qs, Same H H' → TT pcV H' l qs → Can qs → dens qs = midL L a b → N (.ref l) H') :
    spEdOp CE midL [.ref e, .int a, .int b] H (fun x H1 => ∃ (y C dx : Addr) (fs : List (Str × V)) (v : V), x = .ref y ∧ H1 y = some (.ins C dx fs) ∧ Cls K C ∧ NoAttr K C "pieces" ∧ fs.lookup ("pieces" : Str) = some v ∧ N v H1) E := by
  refine ⟨e, L, a, b, rfl, he, hab, hb, hB, hm, fun H1 y s1 hy => ?_⟩
  obtain ⟨dy, tp, qs, h1, h2, h4, h5⟩ := hy
  exact ⟨y, CE, dy, _, _, rfl, h1, TE.cl, TE.nP, edF_p _ _, k _ tp qs s1 h2 h4 h5⟩
def spFmRep (CE CF CS CL CT : Addr) : Sp := fun vs H Q E => ∃ (x : Addr) (fs : List Fl) (n : Nat) (p q : V) (t : Nat), vs = [.ref x, p, q, .int t] ∧ Sca p ∧ Sca q ∧ FilmAt CE CF H x fs n ∧ FsOk fs n ∧ (∀ f ∈ fs, mm false f.L ≤ 60) ∧ t ≤ 100 ∧
  (¬ strOk p q n → ∀ d H', Same H H' → H' d = some (.xd (fld2 "first" "last" p q)) → E (.ref CS) (some d) H') ∧
  ∀ a b : Nat, p = .int a → q = .int b → a ≤ b → b ≤ n →
    (MAXL < (n : Int) + ((b : Int) - a) * ((t : Int) - 1) → ∀ d H', Same H H' → H' d = some (.xd (fld1 "found" (.int ((n : Int) + ((b : Int) - a) * ((t : Int) - 1))))) → E (.ref CL) (some d) H') ∧
    ((n : Int) + ((b : Int) - a) * ((t : Int) - 1) ≤ MAXL →
      ((∀ f ∈ fs.map (Fl.up fun L => repL L a b t), Few f.L) → ∀ H' y, Same H H' → FilmAt CE CF H' y (fs.map (Fl.up fun L => repL L a b t)) (n - (b - a) + t * (b - a)) → Q (.ref y) H') ∧
      (¬ (∀ f ∈ fs.map (Fl.up fun L => repL L a b t), Few f.L) → ∀ d H', Same H H' → E (.ref CT) (some d) H'))
theorem dn_put {ns : List Str} {es : List Addr} {i : Nat} {z : Str} {y : Addr} (nd : ns.Nodup) (hz : ns[i]? = some z) (hl : es.length = i) : putK (dn (ns.take i) (es.map V.ref)) (kS z) (.ref y) = dn (ns.take (i + 1)) ((es ++ [y]).map V.ref) := by
  have hi : i < ns.length := (List.getElem?_eq_some_iff.mp hz).1
  have hn : valV (dn (ns.take i) (es.map V.ref)) (kS z) = none := by
    cases q : valV (dn (ns.take i) (es.map V.ref)) (kS z) with
    | none => rfl
    | some v =>
      obtain ⟨pr, hp, e⟩ := List.mem_map.mp (valV_in q)
      obtain ⟨j, x, w, h1, h2, rfl⟩ := mem_dn hp
      obtain rfl := kS_inj e
      have hj : j < (ns.take i).length := (List.getElem?_eq_some_iff.mp h1).1
      rw [List.length_take] at hj
      rw [List.getElem?_take_of_lt (by omega)] at h1
      have := nd_ix nd h1 hz
      omega
  rw [putK_new _ hn, take_more hz, List.map_append]
  unfold dn
  rw [List.map_append, List.zip_append (by simp; omega)]
  rfl
theorem SameX.i {x : Addr} {H H' : Hp} {kvs : List (Key × V)} (hx : H x = some (.dK kvs)) (s : SameX x H H') : SameI H H' := fun b o e h => s b o e fun z => by
  rw [z, hx] at e
  rcases h with ⟨_, h⟩ | ⟨_, _, _, h⟩ <;> rw [h] at e <;> cases e
section
variable {P : Program} {w : World} {K : PySem.W.Frag} {mg : Str → Option Value} {base : Heap} {CE CF CT CL CS : Addr}
theorem sc_Film_repeat : FnScope ["self", "first", "last", "times", "found", "name", "one", "middle", "rest"] ["self", "first", "last", "times"] (defScope (inClass (top 38) 12)) := ⟨rfl, rfl, rfl, by decide +kernel, rfl, by decide +kernel, by decide +kernel⟩
theorem ok_Film_repeat (T : Tx K mg) (TE : ClE K mg CE) (TF : ClF K CF) (D : Has K (dM "Film" "repeat" "Film.repeat" 38 12)) (M : Meth K CF "repeat" (He.fAd K ("Film", some "repeat"))) (G_check_stretch : OkM P w K mg base 3 CF "check_stretch" ["self", "first", "last"] (spFmChk CE CF CS))
    (G_check_length : OkM P w K mg base 3 CF "check_length" ["self", "length"] (spFmLen CL))
    (G_with_edits : OkM P w K mg base 11 CF "with_edits" ["self", "edits"] (spFmWith CE CF CT)) (G_stretch : OkM P w K mg base 6 CE "stretch" ["self", "first", "last"] (spEdOp CE midL)) (G_Edits : OkN P w K mg base 4 CE "Edits" ["self", "pieces"] (spEdInit CE)) :
    OkM P w K mg base 12 CF "repeat" ["self", "first", "last", "times"] (spFmRep CE CF CS CL CT) := by
  refine okM D TF.cl M sc_Film_repeat (fun _ _ _ _ _ _ us hl => match us, hl with | [_, _, _, _], _ => rfl) (fun vs H Q E h => ?_) (fun f cdv A outer s H vs Q E hr h => ?_)
  · obtain ⟨x, fs, n, p, q, t, rfl, _⟩ := h
    rfl
  · obtain ⟨x, fs, n, p, q, t, rfl, sp, sq, ⟨dx, tn, dk, de, rs, es, fm⟩, ok, hmm, ht, ke, k⟩ := h
    refine ⟨_, pss_cons (ps_expr (pe_mG (pv 0) G_check_stretch (hr.mono (by decide)) (passes_call (takes_of rfl rfl rfl rfl) (fun _ _ _ _ h => h)) (pa_cons (pv 1) (pa_cons (pv 2) pa_nil))))
      (pss_cons (ps_expr (pe_mG (pv 0) G_check_length (hr.mono (by decide)) (passes_call (takes_of rfl rfl rfl rfl) (fun _ _ _ _ h => h)) (pa_cons (pe_op op_add (pe_fld (pv 0) rfl) (pe_op op_mul (pe_op op_sub (pv 2) (pv 1)) (pe_op op_sub (pv 3) pe_int))) pa_nil)))
      (pss_cons (ps_set (i := 4) sc_Film_repeat.nd rfl (Or.inl rfl) pe_dnewK)
      (pss_cons (ps_lock (ps_for (passes_of rfl) rfl (pi_items (pe_fld (pv 0) rfl)) (pg_tup rfl (pgs_cons (pg_name (i := 5) sc_Film_repeat.nd rfl (Or.inl rfl)) (pgs_cons (pg_name (i := 6) sc_Film_repeat.nd rfl (Or.inl rfl)) pgs_nil)))
        (pss_cons (ps_set (i := 7) sc_Film_repeat.nd rfl (Or.inl rfl) (pe_op op_rep (pe_callTy (call_lstK (K := K)) (by rfl) T.list (by decide +kernel) (pa_cons (pe_fld (pe_mG (pv 6) G_stretch (hr.mono (by decide)) passL (pa_cons (pv 1) (pa_cons (pv 2) pa_nil))) rfl) pa_nil)) (pv 3)))
          (pss_cons (ps_set (i := 8) sc_Film_repeat.nd rfl (Or.inl rfl) (pe_fld (pe_mG (pv 6) G_stretch (hr.mono (by decide)) passL (pa_cons (pv 2) (pa_cons (pe_fld (pv 0) rfl) pa_nil))) rfl))
          (pss_one (ps_dput (un1 hr) (pv 4) (pv 5) (pe_nG G_Edits (hr.mono (by decide)) rfl passL (pa_cons (pe_op op_cat (pe_op op_cat (pe_callTy (call_lstK (K := K)) (by rfl) T.list (by decide +kernel) (pa_cons (pe_fld (pe_mG (pv 6) G_stretch (hr.mono (by decide)) passL (pa_cons pe_int (pa_cons (pv 1) pa_nil))) rfl) pa_nil)) (pv 7)) (pe_callTy (call_lstK (K := K)) (by rfl) T.list (by decide +kernel) (pa_cons (pv 8) pa_nil))) pa_nil)) rfl))))))
      (pss_one (ps_ret (pe_mG (pv 0) G_with_edits hr (passes_call (takes_of rfl rfl rfl rfl) (fun _ _ _ _ h => h)) (pa_cons (pv 4) pa_nil))))))), ?_⟩
    -- check_stretch
    refine ⟨_, rfl, x, dx, _, rfl, fm.x, fm_m, _, rfl, _, rfl, x, fs, n, p, q, rfl, sp, sq, ⟨dx, tn, dk, de, rs, es, fm⟩, fun good => ?_, ke⟩
    obtain ⟨a, b, rfl, rfl, hab, hb⟩ := good
    obtain ⟨kl, kk⟩ := k a b rfl rfl hab hb
    have hbig : (n : Int) ≤ MAXL := by
      obtain ⟨f0, hf0⟩ : ∃ f, f ∈ fs := by
        have := ok.one
        cases fs with
        | nil => simp at this
        | cons f r => exact ⟨f, List.mem_cons_self⟩
      exact (ok.all f0 hf0).big
    -- check_length
    refine ⟨_, rfl, x, dx, _, rfl, fm.x, fm_l, _, rfl, x, CF, dx, _, _, rfl, fm.x, TF.cl, TF.nL, fmF_l, _, rfl, _, rfl, _, _, rfl, rfl, _, rfl, _, _, rfl, rfl, _, _, rfl, rfl, .inr ⟨by omega, by omega⟩, _, _, rfl, rfl, x, _, rfl, fun le => ?_, kl⟩
    obtain ⟨kq, kt⟩ := kk le
    -- found = {}
    refine fun Dd hD => ?_
    have nD : Dd ≠ de := fun z => by rw [z, fm.de] at hD; cases hD
    refine ⟨de, _, (Same.new hD) _ _ fm.de, True.intro, fun od => ?_⟩
    have o4 := ok.four
    have l1 : es.length = fs.length := Paired.length fm.ed
    generalize eH0 : upd (upd H Dd (.dK [])) de (.frz od (.dK (dn (fs.map Fl.nm) (es.map V.ref)))) = H0
    have fz0 : H0 de = some (.frz od (.dK (dn (fs.map Fl.nm) (es.map V.ref)))) := by rw [← eH0]; exact upd_same
    have dD0 : H0 Dd = some (.dK []) := by rw [← eH0, upd_ne nD]; exact upd_same
    have k0 : ∀ c o, H c = some o → c ≠ de → H0 c = some o := fun c o e hc => by
      rw [← eH0, upd_ne hc, upd_ne (ne_of_none e hD)]
      exact e
    have sI0 : SameI H H0 := fun c o e h => k0 c o e fun z => by
      rw [z, fm.de] at e
      rcases h with ⟨_, h⟩ | ⟨_, _, _, h⟩ <;> rw [h] at e <;> cases e
    refine ⟨_, rfl, x, CF, dx, _, _, rfl, sI0.i fm.x, TF.cl, TF.nE, fmF_e, de, od, _, rfl, fz0, for_it walk_items (fun i σ H1 => ∃ (es' : List Addr) (v5 v6 v7 v8 : Option V), σ = [some (.ref x), some (.int a), some (.int b), some (.int t), some (.ref Dd), v5, v6, v7, v8] ∧ SameX Dd H0 H1 ∧
        H1 Dd = some (.dK (dn ((fs.map Fl.nm).take i) (es'.map V.ref))) ∧ Paired (fun e f => EdAt CE H1 e (repL f.L a b t)) es' (fs.take i))
      ⟨[], none, none, none, none, rfl, fun _ _ e _ => e, dD0, .nil⟩ (fun i σ H1 _ ⟨_, _, _, _, _, _, sx, _⟩ => sx _ _ fz0 (Ne.symm nD)) ?_ ?_⟩
    · rintro i y σ H1 H2 hi ⟨es', v5, v6, v7, v8, rfl, sx, eD, hE⟩ ⟨U, u1, u2, rfl, hU, rfl, e1, e2⟩
      obtain ⟨pr, hpr⟩ : ∃ pr, (dn (fs.map Fl.nm) (es.map V.ref))[i]? = some pr := ⟨_, List.getElem?_eq_getElem hi⟩
      obtain ⟨z, v, g1, g2, rfl⟩ := dn_get hpr
      obtain ⟨e, g3, rfl⟩ := map_get g2
      obtain ⟨f, g4, g5⟩ := paired_get fm.ed g3
      dsimp only at e1 e2
      rw [hpr] at e1 e2
      obtain rfl : V.str z = u1 := Option.some.inj e1
      obtain rfl : V.ref e = u2 := Option.some.inj e2
      have hf : f ∈ fs := List.mem_of_getElem? g4
      have o := ok.all f hf
      have hm := hmm f hf
      have sI1 : SameI H H1 := sI0.trans (sx.i dD0)
      have s2 := Same.new (o := .tup [.str z, .ref e]) hU
      have he : EdAt CE (upd H1 U (.tup [.str z, .ref e])) e f.L := (g5.keepI sI1).keep (.of s2)
      obtain ⟨dy, ty, py, i1, i2⟩ := id he
      refine ⟨U, _, rfl, SqT.of upd_same, rfl, _, _, rfl, _, _, rfl, rfl, ?_⟩
      -- middle
      refine ⟨_, rfl, e, dy, _, rfl, i1, edF_no _ _ (by decide +kernel) (by decide +kernel), _, rfl, _, rfl, ?_⟩
      dsimp only [tNil]
      refine stretch_list TE he hab (by rw [o.len]; exact hb) (by rw [o.len]; exact o.big) (by omega) fun H3 l1' qs1 s3 hq1 hc1 hd1 => ?_
      obtain ⟨rq1, eq1, tq1⟩ := hq1
      have nq1 := tq1.len
      have cq1 := can_mm hc1
      rw [hd1] at cq1
      have mq1 := mm_mid f.L a b
      have et : ((t : Nat) : Int).toNat = t := Int.toNat_natCast t
      have hmul : rq1.length * t ≤ 61 * 100 := Nat.mul_le_mul (by omega) ht
      refine ⟨_, rfl, l1', t, _, rfl, rfl, eq1, by omega, by omega, by rw [List.length_map, et, sizeLine_eq]; omega, fun pm hpm => ?_⟩
      rw [et, map_rep]
      have s4 := Same.new (o := .lst ((List.replicate t rq1).flatten.map V.ref)) hpm
      have s24 := (s2.trans s3).trans s4
      have s34 := s3.trans s4
      -- rest
      refine ⟨_, rfl, e, dy, _, rfl, s34 _ _ i1, edF_no _ _ (by decide +kernel) (by decide +kernel), _, rfl, _, rfl, x, CF, dx, _, _, rfl, s24 _ _ (sI1.i fm.x), TF.cl, TF.nL, fmF_l, ?_⟩
      dsimp only [tNil]
      refine stretch_tup TE (he.keep (.of s34)) hb (by rw [o.len]; exact Nat.le_refl _) (by rw [o.len]; exact o.big) (by omega) fun H5 tp2 qs2 s5 hq2 hc2 hd2 => ?_
      have s25 := s24.trans s5
      have s35 := s34.trans s5
      -- found[name] = Edits(..)
      refine ⟨_, rfl, e, dy, _, rfl, s35 _ _ i1, edF_no _ _ (by decide +kernel) (by decide +kernel), _, rfl, ?_⟩
      dsimp only [tNil]
      refine stretch_list (a := 0) TE (he.keep (.of s35)) (Nat.zero_le _) (by rw [o.len]; omega) (by rw [o.len]; exact o.big) (by omega) fun H6 l3 qs3 s6 hq3 hc3 hd3 => ?_
      have s26 := s25.trans s6
      have s36 := s35.trans s6
      obtain ⟨rq3, eq3, tq3⟩ := hq3
      obtain ⟨rq2, eq2, tq2⟩ := hq2
      have nq3 := tq3.len
      have nq2 := tq2.len
      have cq3 := can_mm hc3
      rw [hd3] at cq3
      have mq3 := mm_mid f.L 0 a
      have cq2 := can_mm hc2
      rw [hd2] at cq2
      have mq2 := mm_mid f.L b n
      have lrep := len_rep t rq1
      have lcm : t * rq1.length = rq1.length * t := Nat.mul_comm _ _
      have pm6 : H6 pm = some (.lst ((List.replicate t rq1).flatten.map V.ref)) := s6 _ _ (s5 _ _ upd_same)
      refine ⟨_, rfl, l3, pm, _, _, rfl, rfl, eq3, pm6, by simp only [List.length_append, List.length_map]; rw [sizeLine_eq]; omega, fun o1 ho1 => ?_⟩
      have s27 := s26.up (o := .lst (rq3.map V.ref ++ (List.replicate t rq1).flatten.map V.ref)) ho1
      have s67 : Same H6 (upd H6 o1 (.lst (rq3.map V.ref ++ (List.replicate t rq1).flatten.map V.ref))) := Same.new ho1
      refine ⟨_, rfl, tp2, _, rfl, .inr (SqT.of (s67 _ _ (s6 _ _ eq2))), fun l4 hl4 => ?_⟩
      have s78 := Same.new (o := .lst (rq2.map V.ref)) hl4
      refine ⟨o1, l4, _, _, rfl, rfl, s78 _ _ upd_same, upd_same, by simp only [List.length_append, List.length_map]; rw [sizeLine_eq]; omega, fun o2 ho2 => ?_⟩
      have s89 := Same.new (o := .lst (rq3.map V.ref ++ (List.replicate t rq1).flatten.map V.ref ++ rq2.map V.ref)) ho2
      have s69 := (s67.trans s78).trans s89
      have t3 : Tp pcV (upd (upd (upd H6 o1 (.lst (rq3.map V.ref ++ (List.replicate t rq1).flatten.map V.ref))) l4 (.lst (rq2.map V.ref))) o2 (.lst (rq3.map V.ref ++ (List.replicate t rq1).flatten.map V.ref ++ rq2.map V.ref))) (rq3 ++ (List.replicate t rq1).flatten ++ rq2) (qs3 ++ (List.replicate t qs1).flatten ++ qs2) := by
        refine paired_append (paired_append (Tp.keep (f := pcV) tq3 (.of s69)) (paired_rep (Tp.keep (f := pcV) tq1 (.of ?_)) t)) (Tp.keep (f := pcV) tq2 (.of (s6.trans s69)))
        exact ((s4.trans s5).trans s6).trans s69
      have eD9 : dens (qs3 ++ (List.replicate t qs1).flatten ++ qs2) = repL f.L a b t := by
        rw [dens_app, dens_app, dens_rep, hd1, hd2, hd3]
        unfold repL midL
        rw [List.drop_zero, ← o.len, List.take_length]
      have lq := len_rep t qs1
      have hmq : t * qs1.length ≤ 100 * 61 := Nat.mul_le_mul ht (by omega)
      have rl := rep_len (L := f.L) (t := t) hab (by rw [o.len]; exact hb)
      have dueE := due_eq (t := t) hab hb
      refine ed_makeA (ps := qs3 ++ (List.replicate t qs1).flatten ++ qs2) ⟨_, by rw [upd_same, List.map_append, List.map_append], t3⟩ (fun pc hp => ?_) (by simp only [List.length_append]; omega) (by rw [eD9, rl, o.len, dueE]; exact le) fun H9 y s9 hy => ?_
      · rcases List.mem_append.mp hp with hp | hp
        · rcases List.mem_append.mp hp with hp | hp
          · exact hc3.ok _ hp
          · exact hc1.ok _ (mem_rep hp)
        · exact hc2.ok _ hp
      rw [eD9] at hy
      have s29 : Same H1 H9 := (s26.trans s69).trans s9
      have el : es'.length = i := by
        have := Paired.length hE
        rw [List.length_take] at this
        have hi2 : i < fs.length := (List.getElem?_eq_some_iff.mp g4).1
        omega
      refine ⟨_, rfl, _, rfl, Dd, _, rfl, .inl ⟨_, kS z, s29 _ _ eD, rfl, small_size (by simp [dn]; omega), rfl⟩, es' ++ [y], _, _, _, _, rfl, ?_, ?_, ?_⟩
      · exact fun c o' ec nc => by
          rw [upd_ne nc]
          exact s29 _ _ (sx _ _ ec nc)
      · rw [upd_same, dn_put ok.nd g1 el]
      · rw [take_more g4]
        have k9 : SameI H9 (upd H9 Dd (.dK (putK (dn ((fs.map Fl.nm).take i) (es'.map V.ref)) (kS z) (.ref y)))) := (SameX.up (x := Dd)).i (s29 _ _ eD)
        exact paired_append (Paired.mapP hE fun _ _ z => (z.keep (.of s29)).keepI k9) (.cons (hy.keepI k9) .nil)
    · rintro σ H1 ⟨es', v5, v6, v7, v8, rfl, sx, eD, hE⟩
      have hN : (dn (fs.map Fl.nm) (es.map V.ref)).length = fs.length := by simp [dn]; omega
      rw [hN] at eD hE
      rw [List.take_of_length_le (by simp)] at eD
      rw [List.take_of_length_le (Nat.le_refl _)] at hE
      have fz1 := sx _ _ fz0 (Ne.symm nD)
      refine ⟨fz1, ?_⟩
      have sB : Same H (upd H1 de (.dK (dn (fs.map Fl.nm) (es.map V.ref)))) := fun c o e => by
        by_cases hc : c = de
        · rw [hc] at e ⊢
          rw [upd_same, ← e, fm.de]
        · rw [upd_ne hc]
          exact sx _ _ (k0 _ _ e hc) (ne_of_none e hD)
      have rfl' : ∀ f ∈ fs, (repL f.L a b t).length = n - (b - a) + t * (b - a) := fun f hf => by
        have o := ok.all f hf
        rw [rep_len hab (by rw [o.len]; exact hb), o.len]
      have dueE := due_eq (t := t) hab hb
      have fine : Fine fs (fun L => repL L a b t) (n - (b - a) + t * (b - a)) 10000 := ⟨by rw [dueE]; exact le, fun f hf => ⟨rfl' f hf, fun m hm => rep_mem hm, by
        have h1 := mm_repL f.L a b t
        have h2 := hmm f hf
        have h3 : t * (mm false f.L + 1) ≤ 100 * 61 := Nat.mul_le_mul ht (by omega)
        show mm false (repL f.L a b t) ≤ 10000
        omega⟩⟩
      refine ⟨_, rfl, x, dx, _, rfl, sB _ _ fm.x, fm_w, _, rfl, x, Dd, fs, fs.map (Fl.up fun L => repL L a b t), n, n - (b - a) + t * (b - a), es', rfl, FilmAt.same ⟨dx, tn, dk, de, rs, es, fm⟩ sB, ok, by rw [upd_ne nD]; exact eD, ?_, up_nm, up_ss, fine.ok ok (Nat.le_refl _), fun fw H2 y s2 hy => kq fw H2 y (sB.trans s2) hy, fun nf d H2 s2 => kt nf d H2 (sB.trans s2)⟩
      exact up_paired (G := fun L => repL L a b t) (Paired.mapP hE fun _ _ z => z.keepI (unlock_I fz1))
end
end K24

/-! part F7 -/
set_option Elab.async false
set_option linter.all false
set_option maxRecDepth 100000
set_option maxHeartbeats 4000000
namespace K24
open PySem PySem.Spec PyProof.Rows L2
/-- what the written part says of OtherLanes -/
structure OlT (K : PySem.W.Frag) (mg : Str → Option Value) (C : Addr) : Prop where
  q : PySem.W.excIn K C [.type "ValueError", .type "Exception", .type "BaseException", .type "object"] "ValueError.__new__" = true
  g : mg "OtherLanes" = some (.ref C)
  k : PySem.W.keepIn K (.ref C) = true
  b : PySem.W.subIn K (.ref C) (.type "BaseException") = some true
  t : PySem.W.typeIn K (.ref C) = some (.type "type")
def putFs (fs gs : List Fl) (a : Nat) : List Fl := List.zipWith (fun f g => ⟨f.nm, f.ss, putL f.L g.L a⟩) fs gs
theorem put_nm {fs gs : List Fl} {a : Nat} (h : fs.length ≤ gs.length) : (putFs fs gs a).map Fl.nm = fs.map Fl.nm := by
  unfold putFs
  induction fs generalizing gs with
  | nil => rfl
  | cons f fs ih =>
    cases gs with
    | nil => simp at h
    | cons g gs => rw [List.zipWith_cons_cons, List.map_cons, List.map_cons, ih (by simpa using h)]
theorem put_ss {fs gs : List Fl} {a : Nat} (h : fs.length ≤ gs.length) : (putFs fs gs a).map Fl.ss = fs.map Fl.ss := by
  unfold putFs
  induction fs generalizing gs with
  | nil => rfl
  | cons f fs ih =>
    cases gs with
    | nil => simp at h
    | cons g gs => rw [List.zipWith_cons_cons, List.map_cons, List.map_cons, ih (by simpa using h)]
theorem put_get {fs gs : List Fl} {a i : Nat} {f' : Fl} (h : (putFs fs gs a)[i]? = some f') : ∃ f g, fs[i]? = some f ∧ gs[i]? = some g ∧ f' = ⟨f.nm, f.ss, putL f.L g.L a⟩ := by
  unfold putFs at h
  rw [List.getElem?_zipWith_eq_some] at h
  obtain ⟨f, g, h1, h2, h3⟩ := h
  exact ⟨f, g, h1, h2, h3.symm⟩
theorem put_at {fs gs : List Fl} {a i : Nat} {f g : Fl} (h1 : fs[i]? = some f) (h2 : gs[i]? = some g) : (putFs fs gs a)[i]? = some ⟨f.nm, f.ss, putL f.L g.L a⟩ := by
  unfold putFs
  rw [List.getElem?_zipWith, h1, h2]
theorem put_len {L M : Mo} {a : Nat} (h : a ≤ L.length) : (putL L M a).length = L.length + M.length := by
  unfold putL
  rw [List.length_append, List.length_append, List.length_drop, List.length_take]
  omega
theorem mm_put (L M : Mo) (a : Nat) : mm false (putL L M a) ≤ mm false L + mm false M + 1 := by
  unfold putL
  have h1 := (mm_app (L.take a ++ M) (L.drop a) false).1
  have h2 := (mm_app (L.take a) M false).1
  have h3 := (mm_app (L.take a) (L.drop a) false).2
  rw [List.take_append_drop] at h3
  omega
theorem put_ok {fs gs : List Fl} {n m a : Nat} (of : FsOk fs n) (og : FsOk gs m) (en : gs.map Fl.nm = fs.map Fl.nm) (es : gs.map Fl.ss = fs.map Fl.ss) (ha : a ≤ n) (hm : ((n + m : Nat) : Int) ≤ MAXL) (hf : ∀ f ∈ fs, mm false f.L ≤ 60) (hg : ∀ f ∈ gs, mm false f.L ≤ 60) :
    FsOk (putFs fs gs a) (n + m) := by
  have hl : gs.length = fs.length := by have := congrArg List.length en; simpa using this
  refine ⟨fun f' hf' => ?_, ?_, ?_, by rw [put_nm (by omega)]; exact of.nd⟩
  · obtain ⟨i, hi⟩ := List.mem_iff_getElem?.mp hf'
    obtain ⟨f, g, h1, h2, rfl⟩ := put_get hi
    have o := of.all f (List.mem_of_getElem? h1)
    have o' := og.all g (List.mem_of_getElem? h2)
    have e : g.ss = f.ss := by
      have := congrArg (fun l => l[i]?) es
      simp [h1, h2] at this
      exact this
    refine ⟨o.nm, o.ss, ?_, hm, fun k hk => ?_, ?_⟩
    · show (putL f.L g.L a).length = n + m
      rw [put_len (by rw [o.len]; exact ha), o.len, o'.len]
    · have hk : some k ∈ putL f.L g.L a := hk
      unfold putL at hk
      rcases List.mem_append.mp hk with hk | hk
      · rcases List.mem_append.mp hk with hk | hk
        · exact o.inn k (List.mem_of_mem_take hk)
        · show k < tot f.ss
          rw [← e]
          exact o'.inn k hk
      · exact o.inn k (List.mem_of_mem_drop hk)
    · show mm false (putL f.L g.L a) ≤ 10000
      have h3 := mm_put f.L g.L a
      have h4 := hf f (List.mem_of_getElem? h1)
      have h5 := hg g (List.mem_of_getElem? h2)
      omega
  · unfold putFs
    rw [List.length_zipWith]
    have := of.one
    omega
  · unfold putFs
    rw [List.length_zipWith]
    have := of.four
    omega
def momOk (p : V) (n : Nat) : Prop := ∃ a : Nat, p = .int a ∧ a ≤ n
def spFmPut (CE CF CM CO CL CT : Addr) : Sp := fun vs H Q E => ∃ (x y : Addr) (fs gs : List Fl) (n m : Nat) (p : V), vs = [.ref x, p, .ref y] ∧ Sca p ∧ FilmAt CE CF H x fs n ∧ FilmAt CE CF H y gs m ∧ FsOk fs n ∧ FsOk gs m ∧ (∀ f ∈ fs, mm false f.L ≤ 60) ∧ (∀ f ∈ gs, mm false f.L ≤ 60) ∧
  (¬ momOk p n → ∀ d H', Same H H' → H' d = some (.xd (fld1 "moment" p)) → E (.ref CM) (some d) H') ∧
  ∀ a : Nat, p = .int a → a ≤ n →
    (¬ gs.map Fl.nm = fs.map Fl.nm → ∀ H', Same H H' → E (.ref CO) none H') ∧
    (gs.map Fl.nm = fs.map Fl.nm → gs.map Fl.ss = fs.map Fl.ss ∧
      (MAXL < (n : Int) + m → ∀ d H', Same H H' → H' d = some (.xd (fld1 "found" (.int ((n : Int) + m)))) → E (.ref CL) (some d) H') ∧
      ((n : Int) + m ≤ MAXL →
        ((∀ f ∈ putFs fs gs a, Few f.L) → ∀ H' z, Same H H' → FilmAt CE CF H' z (putFs fs gs a) (n + m) → Q (.ref z) H') ∧
        (¬ (∀ f ∈ putFs fs gs a, Few f.L) → ∀ d H', Same H H' → E (.ref CT) (some d) H')))
section
variable {P : Program} {w : World} {K : PySem.W.Frag} {mg : Str → Option Value} {base : Heap} {CE CF CT CL CS CM CO : Addr}
theorem sc_Film_put_in : FnScope ["self", "moment", "other", "found", "name", "one", "pieces"] ["self", "moment", "other"] (defScope (inClass (top 38) 13)) := ⟨rfl, rfl, rfl, by decide +kernel, rfl, by decide +kernel, by decide +kernel⟩
theorem ok_Film_put_in (T : Tx K mg) (TE : ClE K mg CE) (TF : ClF K CF) (TO : OlT K mg CO) (D : Has K (dM "Film" "put_in" "Film.put_in" 38 13)) (M : Meth K CF "put_in" (He.fAd K ("Film", some "put_in"))) (G_is_integer : OkG P w K mg base 1 "is_integer" ["value", "least"] spInt)
    (G_BadMoment : OkE P w K mg base CM "BadMoment" ["self", "moment"] (spX1 CM "moment")) (G_check_length : OkM P w K mg base 3 CF "check_length" ["self", "length"] (spFmLen CL))
    (G_with_edits : OkM P w K mg base 11 CF "with_edits" ["self", "edits"] (spFmWith CE CF CT)) (G_stretch : OkM P w K mg base 6 CE "stretch" ["self", "first", "last"] (spEdOp CE midL)) (G_Edits : OkN P w K mg base 4 CE "Edits" ["self", "pieces"] (spEdInit CE)) :
    OkM P w K mg base 12 CF "put_in" ["self", "moment", "other"] (spFmPut CE CF CM CO CL CT) := by
  refine okM D TF.cl M sc_Film_put_in (fun _ _ _ _ _ _ us hl => match us, hl with | [_, _, _], _ => rfl) (fun vs H Q E h => ?_) (fun f cdv A outer s H vs Q E hr h => ?_)
  · obtain ⟨x, y, fs, gs, n, m, p, rfl, _⟩ := h
    rfl
  · obtain ⟨x, y, fs, gs, n, m, p, rfl, sp, ⟨dx, tn, dk, de, rs, es, fm⟩, ⟨dx', tn', dk', de', rs', es', gm⟩, ok, ok', hmm, hmm', ke, k⟩ := h
    refine ⟨_, pss_cons (ps_if (PW.pt (pw_or (pt_not (pt_val (pe_cG G_is_integer (hr.mono (by decide)) rfl passL (pa_cons (pv 1) (pa_cons pe_int pa_nil))))) (pw_or1 (pt_cmpR op_gt (pv 1) (pe_fld (pv 0) rfl) (nomark _)))))
        (pss_one (ps_raise rfl (takes_of rfl rfl rfl rfl) (pmk_E G_BadMoment (hr.mono (by decide)) rfl passL (pa_cons (pv 1) pa_nil))))
        pss_nil)
      (pss_cons (ps_if (PW.pt (pw_or (pt_cmpR (op_neD (un64 hr)) (pe_fld (pv 2) rfl) (pe_fld (pv 0) rfl) (nomark _)) (pw_or1 (pt_cmpR (op_neDG (mon_tup (mon_tup mon_flat)) (eqG_tup (mon_tup mon_flat) (eqG_tup mon_flat eqG_flat)) (hr.mono (by decide))) (pe_fld (pv 2) rfl) (pe_fld (pv 0) rfl) (nomark _)))))
        (pss_one (ps_raise rfl (takes_of rfl rfl rfl rfl) (pmk_own0 PySem.F.excBase_ValueError TO.q TO.g TO.k (raises_own TO.b TO.t) rfl)))
        pss_nil)
      (pss_cons (ps_expr (pe_mG (pv 0) G_check_length (hr.mono (by decide)) (passes_call (takes_of rfl rfl rfl rfl) (fun _ _ _ _ h => h)) (pa_cons (pe_op op_add (pe_fld (pv 0) rfl) (pe_fld (pv 2) rfl)) pa_nil)))
      (pss_cons (ps_set (i := 3) sc_Film_put_in.nd rfl (Or.inl rfl) pe_dnewK)
      (pss_cons (ps_lock (ps_for (passes_of rfl) rfl (pi_items (pe_fld (pv 0) rfl)) (pg_tup rfl (pgs_cons (pg_name (i := 4) sc_Film_put_in.nd rfl (Or.inl rfl)) (pgs_cons (pg_name (i := 5) sc_Film_put_in.nd rfl (Or.inl rfl)) pgs_nil)))
        (pss_cons (ps_set (i := 6) sc_Film_put_in.nd rfl (Or.inl rfl) (pe_op op_cat (pe_callTy (call_lstK (K := K)) (by rfl) T.list (by decide +kernel) (pa_cons (pe_fld (pe_mG (pv 5) G_stretch (hr.mono (by decide)) passL (pa_cons pe_int (pa_cons (pv 1) pa_nil))) rfl) pa_nil)) (pe_callTy (call_lstK (K := K)) (by rfl) T.list (by decide +kernel) (pa_cons (pe_fld (pe_dget (un1 hr) (pe_fld (pv 2) rfl) (pv 4) (fun _ _ => rfl)) rfl) pa_nil))))
          (pss_one (ps_dput (un1 hr) (pv 3) (pv 4) (pe_nG G_Edits (hr.mono (by decide)) rfl passL (pa_cons (pe_op op_cat (pv 6) (pe_callTy (call_lstK (K := K)) (by rfl) T.list (by decide +kernel) (pa_cons (pe_fld (pe_mG (pv 5) G_stretch (hr.mono (by decide)) passL (pa_cons (pv 1) (pa_cons (pe_fld (pv 0) rfl) pa_nil))) rfl) pa_nil))) pa_nil)) rfl)))))
      (pss_one (ps_ret (pe_mG (pv 0) G_with_edits hr (passes_call (takes_of rfl rfl rfl rfl) (fun _ _ _ _ h => h)) (pa_cons (pv 3) pa_nil)))))))), ?_⟩
    have hn1 : ∀ x ∈ fs.map Fl.nm, NmOk x := fun x hx => by
      obtain ⟨f, hf, rfl⟩ := List.mem_map.mp hx
      exact (ok.all f hf).nm
    have hn2 : ∀ x ∈ gs.map Fl.nm, NmOk x := fun x hx => by
      obtain ⟨f, hf, rfl⟩ := List.mem_map.mp hx
      exact (ok'.all f hf).nm
    refine ⟨_, rfl, _, _, rfl, sp, _, rfl, ?_⟩
    cases e1 : isI p 0 with
    | false => exact ⟨_, rfl, by show 1 ≤ 1000; decide, raised1 fun d H' s1 e2 => ke (fun ⟨a, ha, _⟩ => by rw [ha, isI_ok (by omega)] at e1; cases e1) d H' s1 e2⟩
    | true =>
      obtain ⟨i, rfl, hi⟩ := isI_nat e1
      refine ⟨_, rfl, _, rfl, x, CF, dx, _, _, rfl, fm.x, TF.cl, TF.nL, fmF_l, _, _, rfl, rfl, _, rfl, ?_⟩
      by_cases hbig : (n : Int) < i
      · rw [decide_eq_true hbig]
        exact ⟨_, rfl, by show 1 ≤ 1000; decide, raised1 fun d H' s1 e2 => ke (fun ⟨a, ha, hn⟩ => by injection ha with ha; omega) d H' s1 e2⟩
      · rw [decide_eq_false hbig]
        obtain ⟨a, rfl⟩ := Int.eq_ofNat_of_zero_le hi
        have ha : a ≤ n := by omega
        obtain ⟨ko, kk⟩ := k a rfl ha
        -- names
        refine ⟨_, rfl, y, CF, dx', _, _, rfl, gm.x, TF.cl, TF.nN, fmF_n, _, rfl, x, CF, dx, _, _, rfl, fm.x, TF.cl, TF.nN, fmF_n, _, _, nm_dp gm.tn, nm_dp fm.tn, nm_shaped hn2, nm_shaped hn1, _, rfl, ?_⟩
        rw [nm_eqv]
        by_cases en : gs.map Fl.nm = fs.map Fl.nm
        case neg =>
          rw [decide_eq_false en]
          exact ko en H (Same.refl _)
        rw [decide_eq_true en]
        obtain ⟨ess, kl, kq⟩ := kk en
        -- kept_samples
        refine ⟨_, rfl, y, CF, dx', _, _, rfl, gm.x, TF.cl, TF.nS, fmF_s, _, rfl, x, CF, dx, _, _, rfl, fm.x, TF.cl, TF.nS, fmF_s, sm_ddict ok'.nd gm fm en.symm ess.symm, fun H1 e1 => ⟨_, rfl, ?_⟩⟩
        have fm1 := fm.keepN (.of e1)
        have gm1 := gm.keepN (.of e1)
        -- check_length
        refine ⟨_, rfl, x, dx, _, rfl, fm1.x, fm_l, _, rfl, x, CF, dx, _, _, rfl, fm1.x, TF.cl, TF.nL, fmF_l, _, rfl, y, CF, dx', _, _, rfl, gm1.x, TF.cl, TF.nL, fmF_l, _, _, rfl, rfl, x, _, rfl, fun le => ?_, fun gt d H' s => kl gt d H' (Same.trans e1 s)⟩
        obtain ⟨kf, kt⟩ := kq le
        -- found = {}
        refine fun Dd hD => ?_
        have nD : Dd ≠ de := fun z => by rw [z, fm1.de] at hD; cases hD
        refine ⟨de, _, (Same.new hD) _ _ fm1.de, True.intro, fun od => ?_⟩
        have o4 := ok.four
        have lgf : gs.length = fs.length := by have := congrArg List.length en; simpa using this
        have l1 : es.length = fs.length := Paired.length fm.ed
        have l2 : es'.length = gs.length := Paired.length gm.ed
        generalize eH0 : upd (upd H1 Dd (.dK [])) de (.frz od (.dK (dn (fs.map Fl.nm) (es.map V.ref)))) = H0
        have fz0 : H0 de = some (.frz od (.dK (dn (fs.map Fl.nm) (es.map V.ref)))) := by rw [← eH0]; exact upd_same
        have dD0 : H0 Dd = some (.dK []) := by rw [← eH0, upd_ne nD]; exact upd_same
        have k0 : ∀ c o, H1 c = some o → c ≠ de → H0 c = some o := fun c o e hc => by
          rw [← eH0, upd_ne hc, upd_ne (ne_of_none e hD)]
          exact e
        have sI0 : SameI H1 H0 := fun c o e h => k0 c o e fun z => by
          rw [z, fm1.de] at e
          rcases h with ⟨_, h⟩ | ⟨_, _, _, h⟩ <;> rw [h] at e <;> cases e
        have rd0 : Rd H0 de' (.dK (dn (gs.map Fl.nm) (es'.map V.ref))) := by
          by_cases z : de' = de
          · have q := gm1.de
            rw [z, fm1.de] at q
            rw [z, ← Option.some.inj q]
            exact .inr ⟨od, fz0⟩
          · exact .inl (k0 _ _ gm1.de z)
        refine ⟨_, rfl, x, CF, dx, _, _, rfl, sI0.i fm1.x, TF.cl, TF.nE, fmF_e, de, od, _, rfl, fz0, for_it walk_items (fun i σ H2 => ∃ (eo : List Addr) (v4 v5 v6 : Option V), σ = [some (.ref x), some (.int a), some (.ref y), some (.ref Dd), v4, v5, v6] ∧ SameX Dd H0 H2 ∧
            H2 Dd = some (.dK (dn ((fs.map Fl.nm).take i) (eo.map V.ref))) ∧ Paired (fun e f => EdAt CE H2 e f.L) eo ((putFs fs gs a).take i))
          ⟨[], none, none, none, rfl, fun _ _ e _ => e, dD0, .nil⟩ (fun i σ H2 _ ⟨_, _, _, _, _, sx, _⟩ => sx _ _ fz0 (Ne.symm nD)) ?_ ?_⟩
        · rintro i y' σ H2 H3 hi' ⟨eo, v4, v5, v6, rfl, sx, eD, hE⟩ ⟨U, u1, u2, rfl, hU, rfl, e1', e2⟩
          obtain ⟨pr, hpr⟩ : ∃ pr, (dn (fs.map Fl.nm) (es.map V.ref))[i]? = some pr := ⟨_, List.getElem?_eq_getElem hi'⟩
          obtain ⟨z, v, g1, g2, rfl⟩ := dn_get hpr
          obtain ⟨e, g3, rfl⟩ := map_get g2
          obtain ⟨f, g4, g5⟩ := paired_get fm1.ed g3
          have hif : i < fs.length := (List.getElem?_eq_some_iff.mp g4).1
          obtain ⟨eb, g6⟩ : ∃ eb, es'[i]? = some eb := ⟨_, List.getElem?_eq_getElem (by omega)⟩
          obtain ⟨g, g7, g8⟩ := paired_get gm1.ed g6
          have gz : (gs.map Fl.nm)[i]? = some z := by rw [en]; exact g1
          have vk := valV_dn ok'.nd gz (show (es'.map V.ref)[i]? = some (.ref eb) by simp [g6])
          dsimp only at e1' e2
          rw [hpr] at e1' e2
          obtain rfl : V.str z = u1 := Option.some.inj e1'
          obtain rfl : V.ref e = u2 := Option.some.inj e2
          have hf : f ∈ fs := List.mem_of_getElem? g4
          have hg : g ∈ gs := List.mem_of_getElem? g7
          have o := ok.all f hf
          have o' := ok'.all g hg
          have hm := hmm f hf
          have hm' := hmm' g hg
          have sI1 : SameI H1 H2 := sI0.trans (sx.i dD0)
          have s2 := Same.new (o := .tup [.str z, .ref e]) hU
          have he : EdAt CE (upd H2 U (.tup [.str z, .ref e])) e f.L := (g5.keepI sI1).keep (.of s2)
          obtain ⟨dy, ty, py, i1, i2⟩ := id he
          have rd2 : Rd H2 de' (.dK (dn (gs.map Fl.nm) (es'.map V.ref))) := by
            have nd' : de' ≠ Dd := fun q => by
              have w := gm1.de
              rw [q, hD] at w
              cases w
            rcases rd0 with r | ⟨od', r⟩
            · exact .inl (sx _ _ r nd')
            · exact .inr ⟨od', sx _ _ r nd'⟩
          refine ⟨U, _, rfl, SqT.of upd_same, rfl, _, _, rfl, _, _, rfl, rfl, ?_⟩
          -- pieces
          refine ⟨_, rfl, e, dy, _, rfl, i1, edF_no _ _ (by decide +kernel) (by decide +kernel), _, rfl, ?_⟩
          dsimp only [tNil]
          refine stretch_list (a := 0) TE he (Nat.zero_le _) (by rw [o.len]; omega) (by rw [o.len]; exact o.big) (by omega) fun H3 l1' qs1 s3 hq1 hc1 hd1 => ?_
          have s23 := s2.trans s3
          have rd3 : Rd H3 de' (.dK (dn (gs.map Fl.nm) (es'.map V.ref))) := by
            rcases rd2 with r | ⟨od', r⟩
            · exact .inl (s23 _ _ r)
            · exact .inr ⟨od', s23 _ _ r⟩
          have hb : EdAt CE H3 eb g.L := (g8.keepI sI1).keep (.of s23)
          obtain ⟨db, tb, pb, j1, ⟨rqb, j2, j3⟩, jc, jd⟩ := id hb
          refine ⟨_, rfl, y, CF, dx', _, _, rfl, s23 _ _ (sI1.i gm1.x), TF.cl, TF.nE, fmF_e, _, rfl, de', .ref eb, rfl, .inl ⟨_, kS z, rd3, rfl, vk.symm⟩, eb, CE, db, _, _, rfl, j1, TE.cl, TE.nP, edF_p _ _, tb, _, rfl, .inr (SqT.of j2), fun l2' hl2 => ?_⟩
          have s4 := Same.new (o := .lst (rqb.map V.ref)) hl2
          obtain ⟨rq1, eq1, tq1⟩ := hq1
          have nq1 := tq1.len
          have cq1 := can_mm hc1
          rw [hd1] at cq1
          have mq1 := mm_mid f.L 0 a
          have nb := j3.len
          have cb := can_mm jc
          rw [jd] at cb
          refine ⟨l1', l2', _, _, rfl, rfl, s4 _ _ eq1, upd_same, by simp only [List.length_append, List.length_map]; rw [sizeLine_eq]; omega, fun o1 ho1 => ?_⟩
          have s5 := Same.new (o := .lst (rq1.map V.ref ++ rqb.map V.ref)) ho1
          have s35 := s4.trans s5
          have s25 := s23.trans s35
          -- found[name] = Edits(..)
          refine ⟨_, rfl, _, rfl, e, dy, _, rfl, (s3.trans s35) _ _ i1, edF_no _ _ (by decide +kernel) (by decide +kernel), _, rfl, _, rfl, x, CF, dx, _, _, rfl, s25 _ _ (sI1.i fm1.x), TF.cl, TF.nL, fmF_l, ?_⟩
          dsimp only [tNil]
          refine stretch_list TE (he.keep (.of (s3.trans s35))) ha (by rw [o.len]; exact Nat.le_refl _) (by rw [o.len]; exact o.big) (by omega) fun H6 l3 qs3 s6 hq3 hc3 hd3 => ?_
          obtain ⟨rq3, eq3, tq3⟩ := hq3
          have nq3 := tq3.len
          have cq3 := can_mm hc3
          rw [hd3] at cq3
          have mq3 := mm_mid f.L a n
          refine ⟨o1, l3, _, _, rfl, rfl, s6 _ _ upd_same, eq3, by simp only [List.length_append, List.length_map]; rw [sizeLine_eq]; omega, fun o2 ho2 => ?_⟩
          have s7 := Same.new (o := .lst (rq1.map V.ref ++ rqb.map V.ref ++ rq3.map V.ref)) ho2
          have s36 := (s35.trans s6).trans s7
          have s27 := s23.trans s36
          have eD9 : dens (qs1 ++ pb ++ qs3) = putL f.L g.L a := by
            rw [dens_app, dens_app, hd1, jd, hd3]
            unfold putL midL
            rw [List.drop_zero, ← o.len, List.take_length]
          have pl := put_len (L := f.L) (M := g.L) (a := a) (by rw [o.len]; exact ha)
          refine ed_makeA (ps := qs1 ++ pb ++ qs3) ⟨rq1 ++ rqb ++ rq3, by rw [upd_same, List.map_append, List.map_append], paired_append (paired_append (Tp.keep (f := pcV) tq1 (.of s36)) (Tp.keep (f := pcV) j3 (.of s36))) (Tp.keep (f := pcV) tq3 (.of s7))⟩
            (fun pc hp => ?_) (by simp only [List.length_append]; omega) (by rw [eD9, pl, o.len, o'.len]; omega) fun H9 y9 s9 hy => ?_
          · rcases List.mem_append.mp hp with hp | hp
            · rcases List.mem_append.mp hp with hp | hp
              · exact hc1.ok _ hp
              · exact jc.ok _ hp
            · exact hc3.ok _ hp
          rw [eD9] at hy
          have s29 : Same H2 H9 := s27.trans s9
          have el : eo.length = i := by
            have := Paired.length hE
            rw [List.length_take] at this
            have : (putFs fs gs a).length = fs.length := by unfold putFs; rw [List.length_zipWith]; omega
            omega
          refine ⟨_, rfl, _, rfl, Dd, _, rfl, .inl ⟨_, kS z, s29 _ _ eD, rfl, small_size (by simp [dn]; omega), rfl⟩, eo ++ [y9], _, _, _, rfl, ?_, ?_, ?_⟩
          · exact fun c o' ec nc => by
              rw [upd_ne nc]
              exact s29 _ _ (sx _ _ ec nc)
          · rw [upd_same, dn_put ok.nd g1 el]
          · rw [take_more (put_at g4 g7)]
            have k9 : SameI H9 (upd H9 Dd (.dK (putK (dn ((fs.map Fl.nm).take i) (eo.map V.ref)) (kS z) (.ref y9)))) := (SameX.up (x := Dd)).i (s29 _ _ eD)
            exact paired_append (Paired.mapP hE fun _ _ z => (z.keep (.of s29)).keepI k9) (.cons (hy.keepI k9) .nil)
        · rintro σ H2 ⟨eo, v4, v5, v6, rfl, sx, eD, hE⟩
          have hN : (dn (fs.map Fl.nm) (es.map V.ref)).length = fs.length := by simp [dn]; omega
          have hpl : (putFs fs gs a).length = fs.length := by unfold putFs; rw [List.length_zipWith]; omega
          rw [hN] at eD hE
          rw [List.take_of_length_le (by simp)] at eD
          rw [List.take_of_length_le (by omega)] at hE
          have fz1 := sx _ _ fz0 (Ne.symm nD)
          refine ⟨fz1, ?_⟩
          have sB : Same H1 (upd H2 de (.dK (dn (fs.map Fl.nm) (es.map V.ref)))) := fun c o e => by
            by_cases hc : c = de
            · rw [hc] at e ⊢
              rw [upd_same, ← e, fm1.de]
            · rw [upd_ne hc]
              exact sx _ _ (k0 _ _ e hc) (ne_of_none e hD)
          have sB' : Same H (upd H2 de (.dK (dn (fs.map Fl.nm) (es.map V.ref)))) := Same.trans e1 sB
          refine ⟨_, rfl, x, dx, _, rfl, sB _ _ fm1.x, fm_w, _, rfl, x, Dd, fs, putFs fs gs a, n, n + m, eo, rfl, FilmAt.same ⟨dx, tn, dk, de, rs, es, fm⟩ sB', ok, by rw [upd_ne nD]; exact eD, Paired.mapP hE fun _ _ z => z.keepI (unlock_I fz1), put_nm (by omega), put_ss (by omega), put_ok ok ok' en ess ha (by omega) hmm hmm', fun fw H3 z s3 hz => kf fw H3 z (sB'.trans s3) hz, fun nf d H3 s3 => kt nf d H3 (sB'.trans s3)⟩
end
end K24

/-! part LA -/
set_option Elab.async false
set_option linter.all false
set_option maxRecDepth 100000
set_option maxHeartbeats 4000000
namespace K24
open PySem PySem.Spec PyProof.Rows L2
/-- the feed: a list of two ints -/
def FeedAt (H : Hp) (fl : Addr) : Prop := ∃ d s : Int, 0 ≤ d ∧ 0 ≤ s ∧ H fl = some (.lst [.int d, .int s])
theorem FeedAt.keep {H H' : Hp} {fl : Addr} (h : FeedAt H fl) (s : Same H H') : FeedAt H' fl := by
  obtain ⟨d, s', h1, h2, h3⟩ := h
  exact ⟨d, s', h1, h2, s _ _ h3⟩
/-- all but the feed is kept: so are all but lists of two ints -/
theorem SameX.f {H H' : Hp} {fl : Addr} (h : FeedAt H fl) (s : SameX fl H H') : SameF H H' := fun b o e n => s b o e fun z => by
  obtain ⟨d, s', _, _, h3⟩ := h
  rw [z, h3] at e
  exact n ⟨d, s', (Option.some.inj e).symm⟩
theorem SameX.fn {H H' : Hp} {fl : Addr} (h : FeedAt H fl) (s : SameX fl H H') : SameN H H' := (s.f h).n
def spFeed (K : PySem.W.Frag) : Sp := fun vs H Q _ => ∃ (a : Addr) (ns : List Int) (k : Nat), vs = [.ref a, .int k] ∧ SqL K H a (ns.map V.int) ∧ ns.length ≤ 1000 ∧ k ≤ 1000 ∧ ∀ H' fl, Same H H' → H fl = none → FeedAt H' fl → Q (.ref fl) H'
def spTake : Sp := fun vs H Q _ => ∃ (fl : Addr) (n : Int), vs = [.ref fl, .int n] ∧ 1 ≤ n ∧ n < 1073741824 ∧ FeedAt H fl ∧ ∀ H' v, SameX fl H H' → FeedAt H' fl → 0 ≤ v → v < n → Q (.int v) H'
def spPick (K : PySem.W.Frag) : Sp := fun vs H Q _ => ∃ (fl c : Addr) (xs : List V), vs = [.ref fl, .ref c] ∧ FeedAt H fl ∧ H c = some (.lst xs) ∧ c ≠ fl ∧ 1 ≤ xs.length ∧ xs.length ≤ 1000 ∧ ∀ H' x, SameX fl H H' → FeedAt H' fl → x ∈ xs → Q x H'
def spBig : Sp := fun vs H Q _ => ∃ (fl : Addr) (n : Int), vs = [.ref fl, .int n] ∧ 1 ≤ n ∧ FeedAt H fl ∧ ∀ H' v, SameX fl H H' → FeedAt H' fl → 0 ≤ v → v < n → Q (.int v) H'
section
variable {P : Program} {w : World} {K : PySem.W.Frag} {mg : Str → Option Value} {base : Heap}
theorem sc__law_take : FnScope ["_law_feed_here", "_law_size", "_law_digit"] ["_law_feed_here", "_law_size"] (defScope (top 41)) := ⟨rfl, rfl, rfl, by decide +kernel, rfl, by decide +kernel, by decide +kernel⟩
theorem ok_law_take (T : Tx K mg) (D : Has K (dN "_law_take" 41)) (g : mg "_law_take" = some (.ref (He.fAd K ("_law_take", none)))) : OkG P w K mg base 1 "_law_take" ["_law_feed_here", "_law_size"] spTake := by
  refine okG D g sc__law_take (fun _ _ _ _ _ _ us hl => match us, hl with | [_, _], _ => rfl) (fun vs H Q E h => ?_) (fun f cdv A outer s H vs Q E hr h => ?_)
  · obtain ⟨fl, n, rfl, _⟩ := h
    rfl
  · obtain ⟨fl, n, rfl, hn1, hn2, ⟨d, s0, hd, hs, hf⟩, q⟩ := h
    refine ⟨_, PSs.nox (pss_cons (ps_if (pt_cmpR op_gt (pe_ix ix_list (pv 0) pe_int (fun _ _ => rfl)) pe_int (nomark _))
        (pss_cons (ps_set (i := 2) sc__law_take.nd rfl (Or.inl rfl) (pe_op op_mod (pe_callTy call_int1 (by rfl) T.int (by decide +kernel) (pa_cons (pe_ix ix_list (pv 0) pe_int (fun _ _ => rfl)) pa_nil)) (pv 1)))
          (pss_cons (ps_asg (pe_op op_fdiv (pe_ix ix_list (pv 0) pe_int (fun _ _ => rfl)) (pv 1)) (pg_sub (pv 0) pe_int set_list))
          (pss_one (ps_ret (pv 2)))))
        pss_nil)
      (pss_cons (ps_asg (pe_op op_mod (pe_callTy call_int1 (by rfl) T.int (by decide +kernel) (pa_cons (pe_op op_add (pe_op op_mul (pe_ix ix_list (pv 0) pe_int (fun _ _ => rfl)) pe_int) pe_int) pa_nil)) pe_int) (pg_sub (pv 0) pe_int set_list))
      (pss_one (ps_ret (pe_op op_mod (pe_callTy call_int1 (by rfl) T.int (by decide +kernel) (pa_cons (pe_op op_fdiv (pe_ix ix_list (pv 0) pe_int (fun _ _ => rfl)) pe_int) pa_nil)) (pv 1)))))), ?_⟩
    have hL : SqL (K := K) H fl [.int d, .int s0] := SqL.of hf
    refine ⟨_, rfl, fl, _, _, _, rfl, rfl, hL, at0 rfl, _, _, rfl, rfl, _, rfl, ?_⟩
    by_cases h0 : (0 : Int) < d
    · rw [decide_eq_true h0]
      refine ⟨_, rfl, fl, _, _, _, rfl, rfl, hL, at0 rfl, .inl ⟨_, rfl, ?_⟩⟩
      refine ⟨_, rfl, _, _, rfl, rfl, by omega, ?_⟩
      refine ⟨_, rfl, fl, _, _, _, rfl, rfl, hL, at0 rfl, _, rfl, _, _, rfl, rfl, ⟨by omega, hn2⟩, ?_⟩
      refine ⟨_, rfl, fl, _, _, 0, rfl, rfl, hf, rfl, ?_⟩
      have h1 : 0 ≤ d / n := Int.ediv_nonneg hd (by omega)
      refine ⟨_, rfl, q _ (d % n) SameX.up ⟨d / n, s0, h1, hs, upd_same⟩ (Int.emod_nonneg _ (by omega)) (Int.emod_lt_of_pos _ (by omega))⟩
    · rw [decide_eq_false h0]
      refine ⟨_, rfl, fl, _, _, _, rfl, rfl, hL, at1 rfl, _, _, rfl, rfl, .inr ⟨by omega, by omega⟩, _, _, rfl, rfl, .inl ⟨_, rfl, _, _, rfl, rfl, (by show (0 : Int) < 4294967311; decide), ?_⟩⟩
      refine ⟨_, rfl, fl, _, _, 1, rfl, rfl, hf, rfl, ?_⟩
      have h1 : 0 ≤ (s0 * 69069 + 12345) % 4294967311 := Int.emod_nonneg _ (by decide)
      have hF : FeedAt (upd H fl (.lst [.int d, .int ((s0 * 69069 + 12345) % 4294967311)])) fl := ⟨d, _, hd, h1, upd_same⟩
      refine ⟨_, rfl, fl, _, _, _, rfl, rfl, SqL.of upd_same, at1 rfl, _, _, rfl, rfl, ⟨(by show (0 : Int) < 65536; decide), (by show (65536 : Int) < 1073741824; decide)⟩, .inl ⟨_, rfl, ?_⟩⟩
      exact ⟨_, rfl, _, _, rfl, rfl, by omega, q _ _ SameX.up hF (Int.emod_nonneg _ (by omega)) (Int.emod_lt_of_pos _ (by omega))⟩
theorem sc__law_pick : FnScope ["_law_feed_here", "_law_choices"] ["_law_feed_here", "_law_choices"] (defScope (top 42)) := ⟨rfl, rfl, rfl, by decide +kernel, rfl, by decide +kernel, by decide +kernel⟩
theorem ok_law_pick (T : Tx K mg) (D : Has K (dN "_law_pick" 42)) (g : mg "_law_pick" = some (.ref (He.fAd K ("_law_pick", none)))) (G_take : OkG P w K mg base 1 "_law_take" ["_law_feed_here", "_law_size"] spTake) :
    OkG P w K mg base 2 "_law_pick" ["_law_feed_here", "_law_choices"] (spPick K) := by
  refine okG D g sc__law_pick (fun _ _ _ _ _ _ us hl => match us, hl with | [_, _], _ => rfl) (fun vs H Q E h => ?_) (fun f cdv A outer s H vs Q E hr h => ?_)
  · obtain ⟨fl, c, xs, rfl, _⟩ := h
    rfl
  · obtain ⟨fl, c, xs, rfl, hf, hc, ne, h1, h2, q⟩ := h
    refine ⟨_, PSs.nox (pss_one (ps_ret (pe_ix ix_list (pv 1) (pe_cG G_take hr rfl passL (pa_cons (pv 0) (pa_cons (pe_callB call_len (by rfl) T.len PySem.boot_len (pa_cons (pv 1) pa_nil)) pa_nil))) (fun _ _ => rfl)))), ?_⟩
    refine ⟨_, rfl, _, rfl, _, rfl, _, (xs.length : Nat), rfl, .inl ⟨_, SqL.of hc, rfl⟩, fl, _, rfl, by omega, by omega, hf, fun H1 v s1 f1 v0 vn => ?_⟩
    obtain ⟨j, rfl⟩ := Int.eq_ofNat_of_zero_le v0
    have hj : j < xs.length := by omega
    exact ⟨c, xs, j, xs[j], rfl, rfl, SqL.of (s1 _ _ hc ne), atI_nat (List.getElem?_eq_getElem hj), q H1 _ s1 f1 (List.getElem_mem hj)⟩
theorem sc__law_big : FnScope ["_law_feed_here", "_law_size", "_law_found"] ["_law_feed_here", "_law_size"] (defScope (top 43)) := ⟨rfl, rfl, rfl, by decide +kernel, rfl, by decide +kernel, by decide +kernel⟩
theorem ok_law_big (T : Tx K mg) (D : Has K (dN "_law_big" 43)) (g : mg "_law_big" = some (.ref (He.fAd K ("_law_big", none)))) (G_take : OkG P w K mg base 1 "_law_take" ["_law_feed_here", "_law_size"] spTake) :
    OkG P w K mg base 2 "_law_big" ["_law_feed_here", "_law_size"] spBig := by
  refine okG D g sc__law_big (fun _ _ _ _ _ _ us hl => match us, hl with | [_, _], _ => rfl) (fun vs H Q E h => ?_) (fun f cdv A outer s H vs Q E hr h => ?_)
  · obtain ⟨fl, n, rfl, _⟩ := h
    rfl
  · obtain ⟨fl, n, rfl, hn, hf, q⟩ := h
    refine ⟨_, PSs.nox (pss_cons (ps_set (i := 2) sc__law_big.nd rfl (Or.inl rfl) (pe_op op_add (pe_op op_mul (pe_cG G_take hr rfl passL (pa_cons (pv 0) (pa_cons pe_int pa_nil))) pe_int) (pe_cG G_take hr rfl passL (pa_cons (pv 0) (pa_cons pe_int pa_nil)))))
      (pss_one (ps_ret (pe_op op_mod (pe_callTy call_int1 (by rfl) T.int (by decide +kernel) (pa_cons (pe_op op_add (pe_op op_mul (pv 2) pe_int) (pe_cG G_take hr rfl passL (pa_cons (pv 0) (pa_cons pe_int pa_nil)))) pa_nil)) (pv 1))))), ?_⟩
    refine ⟨_, rfl, fl, 30000, rfl, by decide, by decide, hf, fun H1 v1 s1 f1 a1 b1 => ?_⟩
    refine ⟨_, _, rfl, rfl, .inr ⟨by decide, by decide⟩, _, rfl, fl, 30000, rfl, by decide, by decide, f1, fun H2 v2 s2 f2 a2 b2 => ?_⟩
    refine ⟨_, _, rfl, rfl, ?_⟩
    refine ⟨_, rfl, _, _, rfl, rfl, .inr ⟨by decide, by decide⟩, _, rfl, fl, 30000, rfl, by decide, by decide, f2, fun H3 v3 s3 f3 a3 b3 => ?_⟩
    exact ⟨_, _, rfl, rfl, .inl ⟨_, rfl, _, rfl, _, _, rfl, rfl, by omega, q H3 _ ((s1.trans s2).trans s3) f3 (Int.emod_nonneg _ (by omega)) (Int.emod_lt_of_pos _ (by omega))⟩⟩
theorem sc__law_feed : FnScope ["_law_script", "_law_k", "_law_seed", "_law_digits"] ["_law_script", "_law_k"] (defScope (top 40)) := ⟨rfl, rfl, rfl, by decide +kernel, rfl, by decide +kernel, by decide +kernel⟩
theorem ok_law_feed (T : Tx K mg) (D : Has K (dN "_law_feed" 40)) (g : mg "_law_feed" = some (.ref (He.fAd K ("_law_feed", none)))) : OkG P w K mg base 1 "_law_feed" ["_law_script", "_law_k"] (spFeed K) := by
  refine okG D g sc__law_feed (fun _ _ _ _ _ _ us hl => match us, hl with | [_, _], _ => rfl) (fun vs H Q E h => ?_) (fun f cdv A outer s H vs Q E hr h => ?_)
  · obtain ⟨a, ns, k, rfl, _⟩ := h
    rfl
  · obtain ⟨a, ns, k, rfl, hS, hl, hk, q⟩ := h
    refine ⟨_, PSs.nox (pss_cons (ps_set (i := 2) sc__law_feed.nd rfl (Or.inl rfl) (pe_ix ix_list (pe_op op_cat (pe_callTy call_list_of (by rfl) T.list (by decide +kernel) (pa_cons (pe_slice sl_list (pv 0) (po_some (pv 1)) (po_some (pe_op op_add (pv 1) pe_int))) pa_nil)) (pe_lst (pa_cons (pe_op op_add (pe_op op_mul pe_int (pv 1)) pe_int) pa_nil))) pe_int (fun _ _ => rfl)))
      (pss_cons (ps_set (i := 3) sc__law_feed.nd rfl (Or.inl rfl) (pe_callB (call_max2 rfl) (by rfl) T.max (by decide +kernel) (pa_cons pe_int (pa_cons (pe_op op_sub (pe_callB call_abs (by rfl) T.abs (by decide +kernel) (pa_cons (pv 2) pa_nil)) (pe_op op_pow pe_int pe_int)) pa_nil))))
      (pss_one (ps_ret (pe_lst (pa_cons (pv 3) (pa_cons (pe_op op_mod (pe_callTy call_int1 (by rfl) T.int (by decide +kernel) (pa_cons (pe_op op_add (pe_op op_add (pe_op op_mul (pe_op op_mod (pe_callTy call_int1 (by rfl) T.int (by decide +kernel) (pa_cons (pe_callB call_abs (by rfl) T.abs (by decide +kernel) (pa_cons (pv 2) pa_nil)) pa_nil)) pe_int) pe_int) (pe_op op_mul pe_int (pv 1))) pe_int) pa_nil)) pe_int) pa_nil))))))), ?_⟩
    refine ⟨_, rfl, _, rfl, _, rfl, _, rfl, _, _, rfl, rfl, _, rfl, a, _, rfl, hS, fun c hc => ?_⟩
    generalize eC : cutV (ns.map V.int) (some (k : Int)) (some ((k : Int) + 1)) = cs
    have hcs : ∀ v ∈ cs, ∃ i, v = V.int i := fun v hv => by
      rw [← eC] at hv
      unfold cutV at hv
      obtain ⟨i, _, rfl⟩ := List.mem_map.mp (List.mem_of_mem_drop (List.mem_of_mem_take hv))
      exact ⟨i, rfl⟩
    have hcl : cs.length ≤ 1000 := by
      rw [← eC]
      have := cutV_length (ns.map V.int) (some (k : Int)) (some ((k : Int) + 1))
      rw [List.length_map] at this
      omega
    refine ⟨c, _, rfl, .inl (SqL.of upd_same), fun b hb => ?_⟩
    refine ⟨_, rfl, _, _, rfl, rfl, .inl ⟨by decide, by decide⟩, _, _, rfl, rfl, (by show 1 ≤ sizeLine; rw [sizeLine_eq]; omega), fun e he => ?_⟩
    have nbe : b ≠ e := ne_of_none upd_same he
    refine ⟨b, e, _, _, rfl, rfl, by rw [upd_ne nbe]; exact upd_same, upd_same, (by simp only [List.length_append, List.length_cons, List.length_nil]; rw [sizeLine_eq]; omega), fun o ho => ?_⟩
    obtain ⟨v0, i0, h0, e0⟩ : ∃ v0 i0, (cs ++ [V.int (71 * (k : Int) + 23)])[0]? = some v0 ∧ v0 = V.int i0 := by
      cases cs with
      | nil => exact ⟨_, _, rfl, rfl⟩
      | cons v r =>
        obtain ⟨i, hi⟩ := hcs v List.mem_cons_self
        exact ⟨v, i, rfl, hi⟩
    subst e0
    refine ⟨o, _, _, _, rfl, rfl, SqL.of upd_same, at0 h0, ?_⟩
    have s1 : Same H (upd (upd (upd (upd H c (.lst cs)) b (.lst cs)) e (.lst [V.int (71 * (k : Int) + 23)])) o (.lst (cs ++ [V.int (71 * (k : Int) + 23)]))) := (((Same.new hc).up hb).up he).up ho
    generalize upd (upd (upd (upd H c (.lst cs)) b (.lst cs)) e (.lst [V.int (71 * (k : Int) + 23)])) o (.lst (cs ++ [V.int (71 * (k : Int) + 23)])) = H1 at s1 ⊢
    refine ⟨_, rfl, _, rfl, _, _, rfl, rfl, ⟨by decide, by decide, by decide⟩, _, _, rfl, rfl, _, _, rfl, ?_⟩
    refine ⟨_, rfl, _, rfl, _, rfl, .inl ⟨_, rfl, _, _, rfl, rfl, (by show (0 : Int) < 1000003; decide), ?_⟩⟩
    refine ⟨_, _, rfl, rfl, .inr ⟨by decide, by decide⟩, _, rfl, _, _, rfl, rfl, .inl ⟨by decide, by decide⟩, _, _, rfl, rfl, _, _, rfl, rfl, .inl ⟨_, rfl, _, _, rfl, rfl, (by show (0 : Int) < 1000033; decide), ?_⟩⟩
    refine ⟨(by show 2 ≤ sizeLine; rw [sizeLine_eq]; omega), fun fl hfl => ?_⟩
    refine q _ fl (s1.up hfl) (s1.free hfl) ⟨_, _, ?_, Int.emod_nonneg _ (by decide), upd_same⟩
    split <;> omega
end
end K24

/-! part LB -/
set_option Elab.async false
set_option linter.all false
set_option maxRecDepth 100000
set_option maxHeartbeats 4000000
namespace K24
open PySem PySem.Spec PyProof.Rows L2
def Sok4 (s : Smp) : Prop := 1 ≤ s.sz ∧ s.sz ≤ 1000000000 ∧ 1 ≤ s.ln ∧ s.ln ≤ 4
def spMkSm : Sp := fun vs H Q _ => ∃ fl : Addr, vs = [.ref fl] ∧ FeedAt H fl ∧ ∀ H' a ss, SameX fl H H' → FeedAt H' fl → H a = none → TL smV H' a ss → SsOk ss → (∀ s ∈ ss, Sok4 s) → Q (.ref a) H'
theorem tot_bd : ∀ {ss : List Smp}, (∀ s ∈ ss, Sok4 s) → (ss.length : Int) ≤ tot ss ∧ tot ss ≤ 4 * (ss.length : Int)
  | [], _ => by simp [tot]
  | s :: ss, h => by
    obtain ⟨h1, h2⟩ := tot_bd fun x hx => h x (List.mem_cons_of_mem _ hx)
    obtain ⟨_, _, a, b⟩ := h s List.mem_cons_self
    unfold tot at *
    simp only [List.map_cons, List.sum_cons, List.length_cons]
    omega
/-- an expression by a reading that says less -/
theorem pe_imp {X : Cx} {e : Expr} {t t' : TE} (he : PE X e t) (h : ∀ σ H Q, t' σ H Q → t σ H Q) : PE X e t' := ⟨fun pins s σ H Q I q => he.run pins s σ H Q I (h σ H Q q)⟩
def tKey : TE := fun σ H Q => ∃ (fl fo : Addr) (xs : List V) (rare : Bool), σ[0]? = some (some (.ref fl)) ∧ σ[3]? = some (some (.ref fo)) ∧ σ[4]? = some (some (.bl rare)) ∧ fo ≠ fl ∧ FeedAt H fl ∧ H fo = some (.lst xs) ∧
  ∀ b H', SameX fl H H' → FeedAt H' fl → (xs = [] → b = true) → Q (.bl b) H'
def tSz : TE := fun σ H Q => ∃ (fl : Addr) (mi : Int), σ[0]? = some (some (.ref fl)) ∧ σ[1]? = some (some (.int mi)) ∧ 9 ≤ mi ∧ mi ≤ 1000000 ∧ FeedAt H fl ∧ ∀ v H', SameX fl H H' → FeedAt H' fl → 0 ≤ v → v < mi → Q (.int v) H'
section
variable {P : Program} {w : World} {K : PySem.W.Frag} {mg : Str → Option Value} {base : Heap}
theorem sc__law_samples : FnScope ["_law_feed_here", "_law_most", "_law_many", "_law_found", "_law_rare", "_law_turn", "_law_is_key", "_law_size"] ["_law_feed_here"] (defScope (top 44)) := ⟨rfl, rfl, rfl, by decide +kernel, rfl, by decide +kernel, by decide +kernel⟩
theorem ok_law_samples (T : Tx K mg) (D : Has K (dN "_law_samples" 44)) (g : mg "_law_samples" = some (.ref (He.fAd K ("_law_samples", none)))) (G_take : OkG P w K mg base 1 "_law_take" ["_law_feed_here", "_law_size"] spTake)
    (G_pick : OkG P w K mg base 2 "_law_pick" ["_law_feed_here", "_law_choices"] (spPick K)) (G_big : OkG P w K mg base 2 "_law_big" ["_law_feed_here", "_law_size"] spBig) :
    OkG P w K mg base 3 "_law_samples" ["_law_feed_here"] spMkSm := by
  refine okG D g sc__law_samples (fun _ _ _ _ _ _ us hl => match us, hl with | [_], _ => rfl) (fun vs H Q E h => ?_) (fun f cdv A outer s H vs Q E hr h => ?_)
  · obtain ⟨fl, rfl, _⟩ := h
    rfl
  · obtain ⟨fl, rfl, hf, q⟩ := h
    refine ⟨_, PSs.nox (pss_cons (ps_par (i := 1) (j := 2) rfl sc__law_samples.nd rfl rfl (by decide) rfl rfl (pa_cons (pe_cG G_pick hr rfl passL (pa_cons (pv 0) (pa_cons (pe_lst (pa_cons pe_int (pa_cons pe_int (pa_cons pe_int (pa_cons (pe_op op_pow pe_int pe_int) pa_nil))))) pa_nil))) (pa_cons (pe_op op_add pe_int (pe_cG G_take (hr.mono (by decide)) rfl passL (pa_cons (pv 0) (pa_cons (pe_cG G_pick hr rfl passL (pa_cons (pv 0) (pa_cons (pe_lst (pa_cons pe_int (pa_cons pe_int (pa_cons pe_int (pa_cons pe_int pa_nil))))) pa_nil))) pa_nil)))) pa_nil)) (by rfl))
      (pss_cons (ps_par (i := 3) (j := 4) rfl sc__law_samples.nd rfl rfl (by decide) rfl rfl (pa_cons (pe_lst pa_nil) (pa_cons (pe_cmpR op_eq (pe_cG G_take (hr.mono (by decide)) rfl passL (pa_cons (pv 0) (pa_cons pe_int pa_nil))) pe_int (nomark _)) pa_nil)) (by rfl))
      (pss_cons (ps_for PassesOwn.never rfl (pi_range1 rfl T.range (pa_cons (pv 2) pa_nil)) (pg_name (i := 5) sc__law_samples.nd rfl (Or.inl rfl))
        (pss_cons (ps_set (i := 6) sc__law_samples.nd rfl (Or.inl rfl) (pe_imp (t' := tKey) (pe_or (pe_cmpR (op_eqNil hr) (pv 3) (pe_lst pa_nil) (nomark _)) (pe_one (pe_ifExp (pt_val (pv 4)) (pe_cmpR op_eq (pe_cG G_take (hr.mono (by decide)) rfl passL (pa_cons (pv 0) (pa_cons pe_int pa_nil))) pe_int (nomark _)) (pe_cmpR op_gt (pe_cG G_take (hr.mono (by decide)) rfl passL (pa_cons (pv 0) (pa_cons pe_int pa_nil))) pe_int (nomark _))))) ?key))
          (pss_cons (ps_set (i := 7) sc__law_samples.nd rfl (Or.inl rfl) (pe_op op_add pe_int (pe_imp (t' := tSz) (pe_ifExp (pt_cmpR op_lt (pv 1) pe_int (nomark _)) (pe_cG G_take (hr.mono (by decide)) rfl passL (pa_cons (pv 0) (pa_cons (pv 1) pa_nil))) (pe_cG G_big hr rfl passL (pa_cons (pv 0) (pa_cons (pv 1) pa_nil)))) ?sz)))
          (pss_one (ps_expr (pe_bm PySem.F.plainAttrs_list PySem.F.slot_list_append PySem.F.type_list_append mt_append (pv 3) (pa_cons (pe_tup (pa_cons (pv 7) (pa_cons (pe_op op_add pe_int (pe_cG G_take (hr.mono (by decide)) rfl passL (pa_cons (pv 0) (pa_cons (pe_cG G_pick hr rfl passL (pa_cons (pv 0) (pa_cons (pe_lst (pa_cons pe_int (pa_cons pe_int (pa_cons pe_int pa_nil)))) pa_nil))) pa_nil)))) (pa_cons (pv 6) pa_nil)))) pa_nil)))))))
      (pss_one (ps_ret (pv 3)))))), ?_⟩
    case key =>
      rintro σ H1 N ⟨fl, fo, xs, rare, h0, h3, h4, ne, hF, ho, k⟩
      refine ⟨_, h3, Nat.zero_le _, fun e he => ⟨fo, e, _, rfl, rfl, (Same.new he) _ _ ho, upd_same, ?_⟩⟩
      have s1 : SameX fl H1 (upd H1 e (.lst [])) := SameX.of (Same.new he)
      have f1 := hF.keep (Same.new (o := .lst []) he)
      refine ⟨_, rfl, ?_⟩
      cases xs with
      | nil => exact k true _ s1 f1 fun _ => rfl
      | cons x xs =>
        refine ⟨_, h4, _, rfl, ?_⟩
        cases rare with
        | true => exact ⟨_, h0, fl, 10, rfl, by decide, by decide, f1, fun H2 v s2 f2 _ _ => ⟨rfl, k _ H2 (s1.trans s2) f2 fun z => nomatch z⟩⟩
        | false => exact ⟨_, h0, fl, 3, rfl, by decide, by decide, f1, fun H2 v s2 f2 _ _ => ⟨_, _, rfl, rfl, k _ H2 (s1.trans s2) f2 fun z => nomatch z⟩⟩
    case sz =>
      rintro σ H1 N ⟨fl, mi, h0, h1, m1, m2, hF, k⟩
      refine ⟨_, h1, _, _, rfl, rfl, _, rfl, ?_⟩
      by_cases hlt : mi < 100
      · rw [decide_eq_true hlt]
        exact ⟨_, h0, _, h1, fl, mi, rfl, by omega, by omega, hF, fun H2 v => k v H2⟩
      · rw [decide_eq_false hlt]
        exact ⟨_, h0, _, h1, fl, mi, rfl, by omega, hF, fun H2 v => k v H2⟩
    -- most, many
    refine ⟨_, rfl, _, _, rfl, rfl, ⟨by decide, by decide, by decide⟩, (by show 4 ≤ sizeLine; rw [sizeLine_eq]; omega), fun c1 hc1 => ?_⟩
    have fne : ∀ {H1 : Hp} {c : Addr}, FeedAt H1 fl → H1 c = none → c ≠ fl := fun hF hc z => by
      obtain ⟨_, _, _, _, e⟩ := hF
      rw [← z, hc] at e
      cases e
    have n1 := fne hf hc1
    have f1 := hf.keep (Same.new (o := .lst [.int 9, .int 9, .int 60, .int (10 ^ (6 : Int).toNat)]) hc1)
    refine ⟨fl, c1, _, rfl, f1, upd_same, n1, (by show 1 ≤ 4; decide), (by show 4 ≤ 1000; decide), fun H1 mo s1 f2 hmo => ?_⟩
    have k1 : SameX fl H H1 := (SameX.of (Same.new hc1)).trans s1
    obtain ⟨mi, rfl, m1, m2⟩ : ∃ i : Int, mo = .int i ∧ 9 ≤ i ∧ i ≤ 1000000 := by
      simp only [List.mem_cons, List.not_mem_nil, or_false] at hmo
      rcases hmo with rfl | rfl | rfl | rfl
      · exact ⟨_, rfl, by decide, by decide⟩
      · exact ⟨_, rfl, by decide, by decide⟩
      · exact ⟨_, rfl, by decide, by decide⟩
      · exact ⟨_, rfl, by decide, by decide⟩
    refine ⟨_, rfl, _, rfl, (by show 4 ≤ sizeLine; rw [sizeLine_eq]; omega), fun c2 hc2 => ?_⟩
    have n2 := fne f2 hc2
    refine ⟨fl, c2, _, rfl, f2.keep (Same.new hc2), upd_same, n2, (by show 1 ≤ 4; decide), (by show 4 ≤ 1000; decide), fun H2 my s2 f3 hmy => ?_⟩
    have k2 : SameX fl H H2 := (k1.trans (SameX.of (Same.new hc2))).trans s2
    obtain ⟨yi, rfl, y1, y2⟩ : ∃ i : Int, my = .int i ∧ 1 ≤ i ∧ i ≤ 12 := by
      simp only [List.mem_cons, List.not_mem_nil, or_false] at hmy
      rcases hmy with rfl | rfl | rfl | rfl
      · exact ⟨_, rfl, by decide, by decide⟩
      · exact ⟨_, rfl, by decide, by decide⟩
      · exact ⟨_, rfl, by decide, by decide⟩
      · exact ⟨_, rfl, by decide, by decide⟩
    refine ⟨fl, yi, rfl, y1, by omega, f3, fun H3 v3 s3 f4 a3 b3 => ⟨_, _, rfl, rfl, _, _, rfl, ?_⟩⟩
    have k3 := k2.trans s3
    -- found, rare
    refine ⟨Nat.zero_le _, fun fo hfo => ?_⟩
    have nfo := fne f4 hfo
    have hfoH : H fo = none := by
      cases e : H fo with
      | none => rfl
      | some o => rw [k3 _ _ e nfo] at hfo; cases hfo
    refine ⟨_, rfl, fl, 4, rfl, by decide, by decide, f4.keep (Same.new hfo), fun H4 v4 s4 f5 a4 b4 => ?_⟩
    have k4 : SameX fl H H4 := (k3.trans (SameX.of (Same.new hfo))).trans s4
    have eo4 : H4 fo = some (.lst []) := s4 _ _ upd_same nfo
    refine ⟨rfl, _, _, rfl, ?_⟩
    generalize decide (V.int v4 = V.int 0) = rare
    -- the loop
    refine ⟨_, rfl, 1 + v3, rfl, by omega, by omega, for_it walk_range (fun i σ H1 => ∃ (rs : List Addr) (ss : List Smp) (v5 v6 v7 : Option V), σ = [some (.ref fl), some (.int mi), some (.int (1 + v3)), some (.ref fo), some (.bl rare), v5, v6, v7] ∧ SameX fl H H1 ∧ FeedAt H1 fl ∧
        H1 fo = some (.lst (rs.map V.ref)) ∧ Tp smV H1 rs ss ∧ ss.length = i ∧ (∀ s ∈ ss, Sok4 s) ∧ ∀ s r, ss = s :: r → s.ky = true)
      ⟨[], [], none, none, none, rfl, k4, f5, eo4, .nil, rfl, (fun s h => by cases h), (fun s r h => by cases h)⟩ (fun _ _ _ _ _ => True.intro) ?_ ?_⟩
    · rintro i y σ Hz H5 hi ⟨rs, ss, v5, v6, v7, rfl, kx, ff, eo, hT, hl, hs4, hky⟩ ⟨rfl, rfl⟩
      refine ⟨fl, fo, _, rare, rfl, rfl, rfl, nfo, ff, eo, fun b H6 s6 f6 hb => ?_⟩
      refine ⟨fl, mi, rfl, rfl, m1, m2, f6, fun z H7 s7 f7 z0 zn => ⟨_, _, rfl, rfl, ?_⟩⟩
      have k7 : SameX fl H5 H7 := s6.trans s7
      have eo7 := k7 _ _ eo nfo
      -- found.append((size, 1 + take(..), is_key))
      refine ⟨_, rfl, .inl ⟨rfl, _, SqL.of eo7⟩, _, rfl, _, rfl, _, rfl, (by show 3 ≤ sizeLine; rw [sizeLine_eq]; omega), fun c3 hc3 => ?_⟩
      have n3 := fne f7 hc3
      refine ⟨fl, c3, _, rfl, f7.keep (Same.new hc3), upd_same, n3, (by show 1 ≤ 3; decide), (by show 3 ≤ 1000; decide), fun H8 mz s8 f8 hmz => ?_⟩
      have k8 : SameX fl H5 H8 := (k7.trans (SameX.of (Same.new hc3))).trans s8
      obtain ⟨zi, rfl, z1, z2⟩ : ∃ i : Int, mz = .int i ∧ 1 ≤ i ∧ i ≤ 4 := by
        simp only [List.mem_cons, List.not_mem_nil, or_false] at hmz
        rcases hmz with rfl | rfl | rfl
        · exact ⟨_, rfl, by decide, by decide⟩
        · exact ⟨_, rfl, by decide, by decide⟩
        · exact ⟨_, rfl, by decide, by decide⟩
      refine ⟨fl, zi, rfl, z1, by omega, f8, fun H9 v9 s9 f9 a9 b9 => ⟨_, _, rfl, rfl, _, rfl, (by show 3 ≤ sizeLine; rw [sizeLine_eq]; omega), fun tu htu => ?_⟩⟩
      have k9 : SameX fl H5 H9 := k8.trans s9
      have eo9 := k9 _ _ eo nfo
      have hlen : rs.length = ss.length := hT.len
      have s10 := Same.new (o := .tup [.int (1 + z), .int (1 + v9), .bl b]) htu
      refine ⟨fo, _, _, rfl, rfl, s10 _ _ eo9, small_size (by rw [List.length_map]; omega), ?_⟩
      have sn : SameN (upd H9 tu (.tup [.int (1 + z), .int (1 + v9), .bl b])) (upd (upd H9 tu (.tup [.int (1 + z), .int (1 + v9), .bl b])) fo (.lst (rs.map V.ref ++ [.ref tu]))) := SameN.lst (s10 _ _ eo9)
      refine ⟨rs ++ [tu], ss ++ [⟨1 + z, 1 + v9, b⟩], _, _, _, rfl, ?_, ?_, by rw [upd_same, List.map_append]; rfl, ?_, by simp [hl], ?_, ?_⟩
      · intro c o e nc
        have nc2 : c ≠ fo := ne_of_none e hfoH
        rw [upd_ne nc2]
        exact s10 _ _ (k9 _ _ (kx _ _ e nc) nc)
      · obtain ⟨d, s', d0, s0, e⟩ := f9
        exact ⟨d, s', d0, s0, by rw [upd_ne (Ne.symm nfo)]; exact s10 _ _ e⟩
      · refine paired_append (Tp.keepN (f := smV) (Tp.keepN (f := smV) (Tp.keepN (f := smV) hT (k9.fn ff)) (.of s10)) sn) (.cons ?_ .nil)
        exact sn.tup upd_same
      · intro s hs
        rcases List.mem_append.mp hs with hs | hs
        · exact hs4 s hs
        · rw [List.mem_singleton.mp hs]
          exact ⟨by show 1 ≤ 1 + z; omega, by show 1 + z ≤ 1000000000; omega, by show 1 ≤ 1 + v9; omega, by show 1 + v9 ≤ 4; omega⟩
      · intro s r e
        cases ss with
        | nil =>
          have : rs = [] := by cases rs with | nil => rfl | cons _ _ => simp at hlen
          subst this
          injection e with e1 e2
          rw [← e1]
          exact hb rfl
        | cons s0 r0 =>
          injection e with e1 e2
          rw [← e1]
          exact hky s0 r0 rfl
    · rintro σ H5 ⟨rs, ss, v5, v6, v7, rfl, kx, ff, eo, hT, hl, hs4, hky⟩
      refine ⟨_, rfl, ?_⟩
      have hn : (1 + v3).toNat = ss.length := hl.symm
      have hlen : 1 ≤ ss.length ∧ ss.length ≤ 12 := by omega
      refine q H5 fo ss kx ff hfoH ⟨rs, eo, hT⟩ ⟨fun s hs => ?_, hlen.1, by omega, ?_⟩ hs4
      · obtain ⟨a1, a2, a3, a4⟩ := hs4 s hs
        exact ⟨a1, a2, a3, by omega⟩
      · cases ss with
        | nil => simp at hlen
        | cons s r => exact ⟨s, r, rfl, hky s r rfl⟩
end
end K24

/-! part LC -/
set_option Elab.async false
set_option linter.all false
set_option maxRecDepth 100000
set_option maxHeartbeats 4000000
namespace K24
open PySem PySem.Spec PyProof.Rows L2
theorem ps_imp {X : Cx} {e : Stmt} {t t' : TS} (he : PS X e t) (h : ∀ D σ H, t' D σ H → t D σ H) : PS X e t' := ⟨fun pins s σ H D I q => he.run pins s σ H D I (h D σ H q)⟩
def spMkPc : Sp := fun vs H Q _ => ∃ (fl : Addr) (total : Int) (len : Nat), vs = [.ref fl, .int total, .int len] ∧ 1 ≤ total ∧ total < 1073741824 ∧ len ≤ 1000 ∧ FeedAt H fl ∧
  ∀ H' a ps, SameX fl H H' → FeedAt H' fl → H a = none → TL pcV H' a ps → (∀ p ∈ ps, Pok p) → (dens ps).length = len → (∀ m, some m ∈ dens ps → m < total) → Q (.ref a) H'
theorem len_dens {ps : List Pc} (h : ∀ p ∈ ps, Pok p) : ps.length ≤ (dens ps).length := by
  induction ps with
  | nil => simp
  | cons p ps ih =>
    have h1 := ih fun q hq => h q (List.mem_cons_of_mem _ hq)
    have h2 := den_lenI (h p List.mem_cons_self)
    have h3 := (h p List.mem_cons_self).len
    rw [dens_cons, List.length_append, List.length_cons]
    omega
theorem mem_den_pl {s l t m : Int} (h : some m ∈ den (.pl s l t)) : ∃ i : Nat, (i : Int) < l ∧ m = s + t * i := by
  unfold den at h
  obtain ⟨i, hi, e⟩ := List.mem_map.mp h
  have := List.mem_range.mp hi
  exact ⟨i, by omega, (Option.some.inj e).symm⟩
/-- a piece is put behind -/
def tAdd : TS := fun D σ H => ∃ (fl fo : Addr) (total many l : Int) (v5 v6 : Option V) (xs : List V), σ = [some (.ref fl), some (.int total), some (.int l), some (.ref fo), some (.int many), v5, v6] ∧ fo ≠ fl ∧ FeedAt H fl ∧ H fo = some (.lst xs) ∧ xs.length ≤ 2000 ∧ 1 ≤ many ∧ 1 ≤ total ∧ total < 1073741824 ∧
  ∀ H' r p v5' v6', (∀ b o, H b = some o → b ≠ fl → b ≠ fo → H' b = some o) → FeedAt H' fl → H' fo = some (.lst (xs ++ [.ref r])) → H' r = some (.tup (pcV p)) → Pok p → plen p ≤ many → (∀ m, some m ∈ den p → m < total) →
    D.nx [some (.ref fl), some (.int total), some (.int l), some (.ref fo), some (.int (plen p)), v5', v6'] H'
section
variable {P : Program} {w : World} {K : PySem.W.Frag} {mg : Str → Option Value} {base : Heap}
theorem sc__law_pieces : FnScope ["_law_feed_here", "_law_total", "_law_length", "_law_found", "_law_many", "_law_start", "_law_step"] ["_law_feed_here", "_law_total", "_law_length"] (defScope (top 45)) := ⟨rfl, rfl, rfl, by decide +kernel, rfl, by decide +kernel, by decide +kernel⟩
theorem ok_law_pieces (T : Tx K mg) (D : Has K (dN "_law_pieces" 45)) (g : mg "_law_pieces" = some (.ref (He.fAd K ("_law_pieces", none)))) (G_take : OkG P w K mg base 1 "_law_take" ["_law_feed_here", "_law_size"] spTake)
    (G_pick : OkG P w K mg base 2 "_law_pick" ["_law_feed_here", "_law_choices"] (spPick K)) :
    OkG P w K mg base 3 "_law_pieces" ["_law_feed_here", "_law_total", "_law_length"] spMkPc := by
  refine okG D g sc__law_pieces (fun _ _ _ _ _ _ us hl => match us, hl with | [_, _, _], _ => rfl) (fun vs H Q E h => ?_) (fun f cdv A outer s H vs Q E hr h => ?_)
  · obtain ⟨fl, total, len, rfl, _⟩ := h
    rfl
  · obtain ⟨fl, total, len, rfl, ht1, ht2, hlen, hf, q⟩ := h
    refine ⟨_, PSs.nox (pss_cons (ps_set (i := 3) sc__law_pieces.nd rfl (Or.inl rfl) (pe_lst pa_nil))
      (pss_cons (ps_while PassesOwn.never (pt_cmpR op_gt (pv 2) pe_int (nomark _))
        (pss_cons (ps_set (i := 4) sc__law_pieces.nd rfl (Or.inl rfl) (pe_callB (call_min2 rfl) (by rfl) T.min (by decide +kernel) (pa_cons (pv 2) (pa_cons (pe_op op_add pe_int (pe_cG G_take (hr.mono (by decide)) rfl passL (pa_cons (pv 0) (pa_cons (pe_cG G_pick hr rfl passL (pa_cons (pv 0) (pa_cons (pe_lst (pa_cons pe_int (pa_cons pe_int (pa_cons pe_int pa_nil)))) pa_nil))) pa_nil)))) pa_nil))))
          (pss_cons (ps_imp (t' := tAdd) (ps_if (pt_cmpR op_eq (pe_cG G_take (hr.mono (by decide)) rfl passL (pa_cons (pv 0) (pa_cons pe_int pa_nil))) pe_int (nomark _))
            (pss_one (ps_expr (pe_bm PySem.F.plainAttrs_list PySem.F.slot_list_append PySem.F.type_list_append mt_append (pv 3) (pa_cons (pe_tup (pa_cons pe_str (pa_cons (pv 4) pa_nil))) pa_nil))))
            (pss_cons (ps_par (i := 5) (j := 6) rfl sc__law_pieces.nd rfl rfl (by decide) rfl rfl (pa_cons (pe_cG G_take (hr.mono (by decide)) rfl passL (pa_cons (pv 0) (pa_cons (pv 1) pa_nil))) (pa_cons (pe_cG G_pick hr rfl passL (pa_cons (pv 0) (pa_cons (pe_lst (pa_cons pe_int (pa_cons pe_int (pa_cons pe_int (pa_cons pe_int (pa_cons pe_int pa_nil)))))) pa_nil))) pa_nil)) (by rfl))
              (pss_cons (ps_set (i := 4) sc__law_pieces.nd rfl (Or.inl rfl) (pe_callB (call_min2 rfl) (by rfl) T.min (by decide +kernel) (pa_cons (pv 4) (pa_cons (pe_op op_add (pe_op op_fdiv (pe_op op_sub (pe_op op_sub (pv 1) pe_int) (pv 5)) (pv 6)) pe_int) pa_nil))))
              (pss_one (ps_expr (pe_bm PySem.F.plainAttrs_list PySem.F.slot_list_append PySem.F.type_list_append mt_append (pv 3) (pa_cons (pe_tup (pa_cons pe_str (pa_cons (pv 5) (pa_cons (pv 4) (pa_cons (pv 6) pa_nil))))) pa_nil))))))) ?add)
          (pss_one (ps_set (i := 2) sc__law_pieces.nd rfl (Or.inl rfl) (pe_op op_sub (pv 2) (pv 4)))))))
      (pss_one (ps_ret (pv 3))))), ?_⟩
    case add =>
      rintro D0 σ H1 ⟨fl, fo, total, many, l, v5, v6, xs, rfl, ne, hF, ho, hxs, hmany, ht1, ht2, k⟩
      have fne : ∀ {H1 : Hp} {c : Addr}, FeedAt H1 fl → H1 c = none → c ≠ fl := fun hF hc z => by
        obtain ⟨_, _, _, _, e⟩ := hF
        rw [← z, hc] at e
        cases e
      have fin : ∀ {H2 : Hp} {tu : Addr} {p : Pc}, SameX fl H1 H2 → FeedAt H2 fl → H2 tu = none → (∀ b o, H1 b = some o → b ≠ fl → b ≠ fo → (upd (upd H2 tu (.tup (pcV p))) fo (.lst (xs ++ [.ref tu]))) b = some o) ∧ FeedAt (upd (upd H2 tu (.tup (pcV p))) fo (.lst (xs ++ [.ref tu]))) fl ∧
          (upd (upd H2 tu (.tup (pcV p))) fo (.lst (xs ++ [.ref tu]))) fo = some (.lst (xs ++ [.ref tu])) ∧ (upd (upd H2 tu (.tup (pcV p))) fo (.lst (xs ++ [.ref tu]))) tu = some (.tup (pcV p)) ∧ (upd H2 tu (.tup (pcV p))) fo = some (.lst xs) := fun {H2 tu p} s2 f2 htu => by
        have e2 := s2 _ _ ho ne
        have ntu : tu ≠ fo := Ne.symm (ne_of_none e2 htu)
        refine ⟨fun b o e n1 n2 => ?_, ?_, upd_same, ?_, ?_⟩
        · have e3 := s2 _ _ e n1
          rw [upd_ne n2, upd_ne (ne_of_none e3 htu)]
          exact e3
        · obtain ⟨d, s', d0, s0, e⟩ := f2
          exact ⟨d, s', d0, s0, by rw [upd_ne (Ne.symm ne), upd_ne (ne_of_none e htu)]; exact e⟩
        · rw [upd_ne ntu]
          exact upd_same
        · rw [upd_ne (Ne.symm ntu)]
          exact e2
      have hsz := small_size (n := xs.length) (by omega)
      refine ⟨_, rfl, fl, 4, rfl, by decide, by decide, hF, fun H2 v2 s2 f2 a2 b2 => ⟨rfl, _, rfl, ?_⟩⟩
      have ho2 := s2 _ _ ho ne
      refine ite2 (fun _ => ?_) (fun _ => ?_)
      · -- nothing
        refine ⟨_, rfl, .inl ⟨rfl, _, SqL.of ho2⟩, _, rfl, (by show 2 ≤ sizeLine; rw [sizeLine_eq]; omega), fun tu htu => ?_⟩
        obtain ⟨g1, g2, g3, g4, g5⟩ := fin (p := .no many) s2 f2 htu
        exact ⟨fo, _, _, rfl, rfl, g5, hsz, k _ tu (.no many) v5 v6 g1 g2 g3 g4 hmany (Int.le_refl _) (fun m hm => by unfold den at hm; have := List.eq_of_mem_replicate hm; cases this)⟩
      · -- play
        refine ⟨_, rfl, _, rfl, fl, total, rfl, ht1, ht2, f2, fun H3 v3 s3 f3 a3 b3 => ?_⟩
        refine ⟨_, rfl, (by show 5 ≤ sizeLine; rw [sizeLine_eq]; omega), fun c4 hc4 => ?_⟩
        have n4 := fne f3 hc4
        refine ⟨fl, c4, _, rfl, f3.keep (Same.new hc4), upd_same, n4, (by show 1 ≤ 5; decide), (by show 5 ≤ 1000; decide), fun H4 mz s4 f4 hmz => ⟨_, _, rfl, ?_⟩⟩
        have k4 : SameX fl H1 H4 := ((s2.trans s3).trans (SameX.of (Same.new hc4))).trans s4
        obtain ⟨st, rfl, z1, z2⟩ : ∃ i : Int, mz = .int i ∧ 1 ≤ i ∧ i ≤ 3 := by
          simp only [List.mem_cons, List.not_mem_nil, or_false] at hmz
          rcases hmz with rfl | rfl | rfl | rfl | rfl
          · exact ⟨_, rfl, by decide, by decide⟩
          · exact ⟨_, rfl, by decide, by decide⟩
          · exact ⟨_, rfl, by decide, by decide⟩
          · exact ⟨_, rfl, by decide, by decide⟩
          · exact ⟨_, rfl, by decide, by decide⟩
        have ho4 := k4 _ _ ho ne
        refine ⟨_, rfl, _, rfl, _, _, rfl, rfl, _, rfl, _, _, rfl, rfl, _, rfl, _, _, rfl, rfl, ⟨by omega, by omega⟩, _, _, rfl, rfl, _, _, rfl, ?_⟩
        have hq0 : 0 ≤ (total - 1 - v3) / st := Int.ediv_nonneg (by omega) (by omega)
        have hq1 : (total - 1 - v3) / st * st ≤ total - 1 - v3 := Int.ediv_mul_le _ (by omega)
        generalize (total - 1 - v3) / st = dq at hq0 hq1 ⊢
        obtain ⟨nm, hnm, hn1, hn2, hn3⟩ : ∃ nm : Int, (if dq + 1 < many then dq + 1 else many) = nm ∧ 1 ≤ nm ∧ nm ≤ many ∧ nm ≤ dq + 1 := by
          refine ⟨_, rfl, ?_, ?_, ?_⟩ <;> split <;> omega
        rw [hnm]
        refine ⟨_, rfl, .inl ⟨rfl, _, SqL.of ho4⟩, _, rfl, _, rfl, _, rfl, (by show 4 ≤ sizeLine; rw [sizeLine_eq]; omega), fun tu htu => ?_⟩
        obtain ⟨g1, g2, g3, g4, g5⟩ := fin (p := .pl v3 nm st) k4 f4 htu
        refine ⟨fo, _, _, rfl, rfl, g5, hsz, k _ tu (.pl v3 nm st) _ _ g1 g2 g3 g4 ⟨a3, hn1, z1⟩ hn2 fun m hm => ?_⟩
        obtain ⟨i, hi, rfl⟩ := mem_den_pl hm
        have h5 : (i : Int) * st ≤ dq * st := Int.mul_le_mul_of_nonneg_right (by omega) (by omega)
        rw [Int.mul_comm st]
        omega
    -- the loop
    have fne : ∀ {H1 : Hp} {c : Addr}, FeedAt H1 fl → H1 c = none → c ≠ fl := fun hF hc z => by
      obtain ⟨_, _, _, _, e⟩ := hF
      rw [← z, hc] at e
      cases e
    refine ⟨Nat.zero_le _, fun fo hfo => ?_⟩
    have nfo := fne hf hfo
    have s0 := Same.new (o := .lst []) hfo
    refine while_by (fun σ H1 => ∃ (l' : Nat) (rs : List Addr) (ps : List Pc) (v4 v5 v6 : Option V), σ = [some (.ref fl), some (.int total), some (.int l'), some (.ref fo), v4, v5, v6] ∧ SameX fl H H1 ∧ FeedAt H1 fl ∧ H1 fo = some (.lst (rs.map V.ref)) ∧ Tp pcV H1 rs ps ∧ (∀ p ∈ ps, Pok p) ∧ (dens ps).length + l' = len ∧ ∀ m, some m ∈ dens ps → m < total)
      (fun (σ : L2.St) (_ : Hp) => match σ[2]? with | some (some (V.int i)) => i.toNat | _ => 0)
      ⟨len, [], [], none, none, none, rfl, SameX.of s0, hf.keep s0, upd_same, .nil, (fun p h => by cases h), by simp [dens_nil], (fun m h => by simp [dens_nil] at h)⟩ ?_ ?_
    · rintro σ H1 ⟨l', rs, ps, v4, v5, v6, rfl, kx, ff, eo, hT, hok, hl, hm⟩
      have hps := len_dens hok
      have hrs := hT.len
      refine ⟨_, rfl, _, _, rfl, rfl, _, rfl, ?_⟩
      refine ite2 (fun hgt => ?_) (fun hgt => ?_)
      · have hgt : (0 : Int) < l' := of_decide_eq_true hgt
        -- many
        refine ⟨_, rfl, _, rfl, _, rfl, (by show 3 ≤ sizeLine; rw [sizeLine_eq]; omega), fun c2 hc2 => ?_⟩
        have n2 := fne ff hc2
        refine ⟨fl, c2, _, rfl, ff.keep (Same.new hc2), upd_same, n2, (by show 1 ≤ 3; decide), (by show 3 ≤ 1000; decide), fun H2 my s2 f2 hmy => ?_⟩
        have k2 : SameX fl H1 H2 := (SameX.of (Same.new hc2)).trans s2
        obtain ⟨yi, rfl, y1, y2⟩ : ∃ i : Int, my = .int i ∧ 1 ≤ i ∧ i ≤ 20 := by
          simp only [List.mem_cons, List.not_mem_nil, or_false] at hmy
          rcases hmy with rfl | rfl | rfl
          · exact ⟨_, rfl, by decide, by decide⟩
          · exact ⟨_, rfl, by decide, by decide⟩
          · exact ⟨_, rfl, by decide, by decide⟩
        refine ⟨fl, yi, rfl, y1, by omega, f2, fun H3 v3 s3 f3 a3 b3 => ⟨_, _, rfl, rfl, _, _, rfl, ?_⟩⟩
        have k3 := k2.trans s3
        obtain ⟨nm, hnm, hn1, hn2⟩ : ∃ nm : Int, (if 1 + v3 < (l' : Int) then 1 + v3 else (l' : Int)) = nm ∧ 1 ≤ nm ∧ nm ≤ l' := by
          refine ⟨_, rfl, ?_, ?_⟩ <;> split <;> omega
        rw [hnm]
        refine ⟨fl, fo, total, nm, l', v5, v6, _, rfl, nfo, f3, k3 _ _ eo nfo, by rw [List.length_map]; omega, hn1, ht1, ht2, fun H4 r p v5' v6' kk f4 eo4 er hp hpl hpm => ?_⟩
        have hp1 := hp.len
        have hd := den_lenI hp
        have k4 : ∀ b o, H1 b = some o → b ≠ fl → b ≠ fo → H4 b = some o := fun b o e n1 n2 => kk _ _ (k3 _ _ e n1) n1 n2
        refine ⟨_, rfl, _, rfl, _, _, rfl, rfl, ⟨((l' : Int) - plen p).toNat, rs ++ [r], ps ++ [p], some (.int (plen p)), v5', v6', ?_, ?_, f4, ?_, ?_, ?_, ?_, ?_⟩, ?_⟩
        · have : ((((l' : Int) - plen p).toNat : Nat) : Int) = (l' : Int) - plen p := by omega
          rw [this]
          rfl
        · intro b o e n1
          have n2 : b ≠ fo := ne_of_none e hfo
          exact k4 _ _ (kx _ _ e n1) n1 n2
        · rw [eo4, List.map_append]
          rfl
        · refine paired_append (Paired.mapP hT fun a x z => k4 _ _ z (fun q => ?_) (fun q => ?_)) (.cons er .nil)
          · obtain ⟨_, _, _, _, e⟩ := ff
            rw [q, e] at z
            cases z
          · rw [q, eo] at z
            cases z
        · intro x hx
          rcases List.mem_append.mp hx with hx | hx
          · exact hok x hx
          · rw [List.mem_singleton.mp hx]
            exact hp
        · rw [dens_app, dens_one, List.length_append]
          omega
        · intro m hm'
          rw [dens_app, dens_one] at hm'
          rcases List.mem_append.mp hm' with hm' | hm'
          · exact hm m hm'
          · exact hpm m hm'
        · show ((l' : Int) - plen p).toNat < (l' : Int).toNat
          omega
      · have hgt : ¬ (0 : Int) < l' := fun x => hgt (decide_eq_true x)
        have h0 : l' = 0 := by omega
        have hfoH : H fo = none := hfo
        exact ⟨_, rfl, q H1 fo ps kx ff hfoH ⟨rs, eo, hT⟩ hok (by omega) hm⟩
    · rintro σ H1 Q1 Q2 h ⟨v, h1, i, j, h2, h3, b, h4, h5⟩
      exact ⟨v, h1, i, j, h2, h3, b, h4, h _ _ h5⟩
end
end K24

/-! part LD -/
set_option Elab.async false
set_option linter.all false
set_option maxRecDepth 100000
set_option maxHeartbeats 4000000
namespace K24
open PySem PySem.Spec PyProof.Rows L2
def nms1 : List (List Str) := [["a"], ["sound", "b"], ["b", "abcdefgh"], ["x", "z", "y"], ["d", "c", "b", "a"], ["video", "jkl"]]
def nms2 : List (List Str) := [["w", "p", "mqrt"], ["left", "right"], ["i"], ["quick", "nv"]]
abbrev STR : Str := "strange"
def nmB (x : Str) : Bool := decide (1 ≤ x.length) && (decide (x.length ≤ 8) && x.cps.toList.all fun c => ABC.cps.toList.contains c)
theorem nmB_ok {x : Str} (h : nmB x = true) : NmOk x := by
  unfold nmB at h
  simp only [Bool.and_eq_true, decide_eq_true_eq, List.all_eq_true] at h
  exact ⟨h.1, h.2.1, fun c hc => List.contains_iff_mem.mp (h.2.2 c hc)⟩
def nmsOk (ns : List Str) : Prop := (∀ x ∈ ns, NmOk x) ∧ 1 ≤ ns.length ∧ ns.length ≤ 4 ∧ ns.Nodup ∧ ¬ ns = [STR]
theorem nms_ok : ∀ ns ∈ nms1 ++ nms2, nmsOk ns := by
  have h : ∀ ns ∈ nms1 ++ nms2, (ns.all nmB = true) ∧ 1 ≤ ns.length ∧ ns.length ≤ 4 ∧ ns.Nodup ∧ ¬ ns = [STR] := by decide +kernel
  intro ns hn
  obtain ⟨h1, h2, h3, h4, h5⟩ := h ns hn
  exact ⟨fun x hx => nmB_ok (List.all_eq_true.mp h1 x hx), h2, h3, h4, h5⟩
def LaneX (fo : Addr) (H : Hp) (r : Addr) (l : Ln) : Prop := ∃ sa pa, sa ≠ fo ∧ pa ≠ fo ∧ H r = some (.tup [.str l.nm, .ref sa, .ref pa]) ∧ TL smV H sa l.ss ∧ TL pcV H pa l.ps
theorem LaneX.lane {fo : Addr} {H : Hp} {r : Addr} {l : Ln} (h : LaneX fo H r l) : LaneAt H r l := by
  obtain ⟨sa, pa, _, _, h1, h2, h3⟩ := h
  exact ⟨sa, pa, h1, h2, h3⟩
/-- all but the feed and the list at fo is kept -/
def SameL (fl fo : Addr) (H H' : Hp) : Prop := ∀ b o, H b = some o → b ≠ fl → b ≠ fo → H' b = some o
theorem LaneX.keep {fl fo : Addr} {H H' : Hp} {xs : List V} (hf : FeedAt H fl) (ho : H fo = some (.lst xs)) (s : SameL fl fo H H') {r : Addr} {l : Ln} (h : LaneX fo H r l) : LaneX fo H' r l := by
  obtain ⟨d, s', _, _, ef⟩ := hf
  have nt : ∀ {b : Addr} {ys : List V}, H b = some (.tup ys) → H' b = some (.tup ys) := fun {b ys} e => s _ _ e (fun z => by rw [z, ef] at e; cases e) (fun z => by rw [z, ho] at e; cases e)
  have nl : ∀ {b : Addr} {rs : List Addr}, b ≠ fo → H b = some (.lst (rs.map V.ref)) → H' b = some (.lst (rs.map V.ref)) := fun {b rs} n e => s _ _ e (fun z => by
    rw [z, ef] at e
    cases rs with
    | nil => cases e
    | cons r rs => cases e) n
  obtain ⟨sa, pa, n1, n2, h1, ⟨ra, h2, h2'⟩, ⟨rb, h3, h3'⟩⟩ := h
  exact ⟨sa, pa, n1, n2, nt h1, ⟨ra, nl n1 h2, Paired.mapP h2' fun _ _ z => nt z⟩, ⟨rb, nl n2 h3, Paired.mapP h3' fun _ _ z => nt z⟩⟩
def spMkLn : Sp := fun vs H Q _ => ∃ fl : Addr, vs = [.ref fl, .int 20] ∧ FeedAt H fl ∧
  ∀ H' a ls n, SameX fl H H' → FeedAt H' fl → LanesAt H' a ls → LsOk ls n → n ≤ 20 → ¬ ls.map Ln.nm = [STR] → a ≠ fl → Q (.ref a) H'
section
variable {P : Program} {w : World} {K : PySem.W.Frag} {mg : Str → Option Value} {base : Heap}
theorem sc__law_lanes : FnScope ["_law_feed_here", "_law_most", "_law_length", "_law_found", "_law_some", "_law_name", "_law_samples_here", "_law_one"] ["_law_feed_here", "_law_most"] (defScope (top 46)) := ⟨rfl, rfl, rfl, by decide +kernel, rfl, by decide +kernel, by decide +kernel⟩
theorem ok_law_lanes (T : Tx K mg) (D : Has K (dN "_law_lanes" 46)) (g : mg "_law_lanes" = some (.ref (He.fAd K ("_law_lanes", none)))) (G_take : OkG P w K mg base 1 "_law_take" ["_law_feed_here", "_law_size"] spTake)
    (G_pick : OkG P w K mg base 2 "_law_pick" ["_law_feed_here", "_law_choices"] (spPick K)) (G_samples : OkG P w K mg base 3 "_law_samples" ["_law_feed_here"] spMkSm) (G_pieces : OkG P w K mg base 3 "_law_pieces" ["_law_feed_here", "_law_total", "_law_length"] spMkPc) :
    OkG P w K mg base 4 "_law_lanes" ["_law_feed_here", "_law_most"] spMkLn := by
  refine okG D g sc__law_lanes (fun _ _ _ _ _ _ us hl => match us, hl with | [_, _], _ => rfl) (fun vs H Q E h => ?_) (fun f cdv A outer s H vs Q E hr h => ?_)
  · obtain ⟨fl, rfl, _⟩ := h
    rfl
  · obtain ⟨fl, rfl, hf, q⟩ := h
    refine ⟨_, PSs.nox (pss_cons (ps_par (i := 2) (j := 3) rfl sc__law_lanes.nd rfl rfl (by decide) rfl rfl (pa_cons (pe_cG G_take (hr.mono (by decide)) rfl passL (pa_cons (pv 0) (pa_cons (pe_op op_add (pv 1) pe_int) pa_nil))) (pa_cons (pe_lst pa_nil) pa_nil)) (by rfl))
      (pss_cons (ps_set (i := 4) sc__law_lanes.nd rfl (Or.inl rfl) (pe_lst (pa_cons (pe_lst (pa_cons pe_str pa_nil)) (pa_cons (pe_lst (pa_cons pe_str (pa_cons pe_str pa_nil))) (pa_cons (pe_lst (pa_cons pe_str (pa_cons pe_str pa_nil))) (pa_cons (pe_lst (pa_cons pe_str (pa_cons pe_str (pa_cons pe_str pa_nil)))) (pa_cons (pe_lst (pa_cons pe_str (pa_cons pe_str (pa_cons pe_str (pa_cons pe_str pa_nil))))) (pa_cons (pe_lst (pa_cons pe_str (pa_cons pe_str pa_nil))) pa_nil))))))))
      (pss_cons (ps_set (i := 4) sc__law_lanes.nd rfl (Or.inl rfl) (pe_op op_cat (pv 4) (pe_lst (pa_cons (pe_lst (pa_cons pe_str (pa_cons pe_str (pa_cons pe_str pa_nil)))) (pa_cons (pe_lst (pa_cons pe_str (pa_cons pe_str pa_nil))) (pa_cons (pe_lst (pa_cons pe_str pa_nil)) (pa_cons (pe_lst (pa_cons pe_str (pa_cons pe_str pa_nil))) pa_nil)))))))
      (pss_cons (ps_for PassesOwn.never rfl (pi_list (pe_cG G_pick (hr.mono (by decide)) rfl passL (pa_cons (pv 0) (pa_cons (pv 4) pa_nil)))) (pg_name (i := 5) sc__law_lanes.nd rfl (Or.inl rfl))
        (pss_cons (ps_set (i := 6) sc__law_lanes.nd rfl (Or.inl rfl) (pe_cG G_samples hr rfl passL (pa_cons (pv 0) pa_nil)))
          (pss_one (ps_expr (pe_bm PySem.F.plainAttrs_list PySem.F.slot_list_append PySem.F.type_list_append mt_append (pv 3) (pa_cons (pe_tup (pa_cons (pv 5) (pa_cons (pv 6) (pa_cons (pe_cG G_pieces hr rfl passL (pa_cons (pv 0) (pa_cons (pe_callB (cr_sum rfl) (by rfl) T.sum (by decide +kernel) (pa_cons (pe_lc (own := [("_law_one", 7)]) rfl sc__law_lanes.nd (pi_list (pv 6)) (blkOk_by (N := ["_law_feed_here", "_law_most", "_law_length", "_law_found", "_law_some", "_law_name", "_law_samples_here", "_law_one"]) (sc := (defScope (top 46))) (by decide +kernel)) (fun _ _ _ _ _ => (pg_name (i := 7) sc__law_lanes.nd rfl (Or.inl rfl))) (fun _ _ _ _ _ => pts_nil) (fun _ _ _ _ _ => (pe_ix (ixTK (K := K)) (pv 7) pe_int (fun _ _ => rfl)))) pa_nil)) (pa_cons (pv 2) pa_nil)))) pa_nil)))) pa_nil))))))
      (pss_one (ps_ret (pv 3))))))), ?_⟩
    have fne : ∀ {H1 : Hp} {c : Addr}, FeedAt H1 fl → H1 c = none → c ≠ fl := fun hF hc z => by
      obtain ⟨_, _, _, _, e⟩ := hF
      rw [← z, hc] at e
      cases e
    -- length, found
    refine ⟨_, rfl, _, rfl, _, _, rfl, rfl, fl, 21, rfl, by decide, by decide, hf, fun H1 v1 s1 f1 a1 b1 => ?_⟩
    obtain ⟨n, rfl⟩ := Int.eq_ofNat_of_zero_le a1
    refine ⟨Nat.zero_le _, fun fo hfo => ⟨_, _, rfl, ?_⟩⟩
    have nfo := fne f1 hfo
    have hfoH : H fo = none := by
      cases e : H fo with
      | none => rfl
      | some o => rw [s1 _ _ e nfo] at hfo; cases hfo
    have k2 : SameX fl H (upd H1 fo (.lst [])) := s1.trans (.of (Same.new hfo))
    have f2 := f1.keep (Same.new (o := .lst []) hfo)
    have eo2 : (upd H1 fo (.lst [])) fo = some (.lst []) := upd_same
    generalize upd H1 fo (.lst []) = H2 at k2 f2 eo2 ⊢
    have lz : ∀ k : Nat, k ≤ 100 → k ≤ sizeLine := fun k hk => by rw [sizeLine_eq]; omega
    -- some
    refine ⟨lz 1 (by decide), fun p1 h1 => ⟨lz 2 (by decide), fun p2 h2 => ⟨lz 2 (by decide), fun p3 h3 => ⟨lz 3 (by decide), fun p4 h4 => ⟨lz 4 (by decide), fun p5 h5 => ⟨lz 2 (by decide), fun p6 h6 => ⟨lz 6 (by decide), fun p7 h7 => ?_⟩⟩⟩⟩⟩⟩⟩
    have P1 : Paired (fun r (ns : List Str) => (upd (upd (upd (upd (upd (upd (upd H2 p1 (.lst [.str "a"])) p2 (.lst [.str "sound", .str "b"])) p3 (.lst [.str "b", .str "abcdefgh"])) p4 (.lst [.str "x", .str "z", .str "y"])) p5 (.lst [.str "d", .str "c", .str "b", .str "a"])) p6 (.lst [.str "video", .str "jkl"])) p7 (.lst [.ref p1, .ref p2, .ref p3, .ref p4, .ref p5, .ref p6])) r = some (.lst (ns.map V.str))) [p1, p2, p3, p4, p5, p6] nms1 := by
      refine .cons ?_ (.cons ?_ (.cons ?_ (.cons ?_ (.cons ?_ (.cons ?_ .nil)))))
      · exact ((((((Same.new h2).up h3).up h4).up h5).up h6).up h7) _ _ upd_same
      · exact (((((Same.new h3).up h4).up h5).up h6).up h7) _ _ upd_same
      · exact ((((Same.new h4).up h5).up h6).up h7) _ _ upd_same
      · exact (((Same.new h5).up h6).up h7) _ _ upd_same
      · exact ((Same.new h6).up h7) _ _ upd_same
      · exact (Same.new h7) _ _ upd_same
    have s7 : Same H2 (upd (upd (upd (upd (upd (upd (upd H2 p1 (.lst [.str "a"])) p2 (.lst [.str "sound", .str "b"])) p3 (.lst [.str "b", .str "abcdefgh"])) p4 (.lst [.str "x", .str "z", .str "y"])) p5 (.lst [.str "d", .str "c", .str "b", .str "a"])) p6 (.lst [.str "video", .str "jkl"])) p7 (.lst [.ref p1, .ref p2, .ref p3, .ref p4, .ref p5, .ref p6])) := (((((((Same.new h1).up h2).up h3).up h4).up h5).up h6).up h7)
    have e7 : (upd (upd (upd (upd (upd (upd (upd H2 p1 (.lst [.str "a"])) p2 (.lst [.str "sound", .str "b"])) p3 (.lst [.str "b", .str "abcdefgh"])) p4 (.lst [.str "x", .str "z", .str "y"])) p5 (.lst [.str "d", .str "c", .str "b", .str "a"])) p6 (.lst [.str "video", .str "jkl"])) p7 (.lst [.ref p1, .ref p2, .ref p3, .ref p4, .ref p5, .ref p6])) p7 = some (.lst [.ref p1, .ref p2, .ref p3, .ref p4, .ref p5, .ref p6]) := upd_same
    generalize upd (upd (upd (upd (upd (upd (upd H2 p1 (.lst [.str "a"])) p2 (.lst [.str "sound", .str "b"])) p3 (.lst [.str "b", .str "abcdefgh"])) p4 (.lst [.str "x", .str "z", .str "y"])) p5 (.lst [.str "d", .str "c", .str "b", .str "a"])) p6 (.lst [.str "video", .str "jkl"])) p7 (.lst [.ref p1, .ref p2, .ref p3, .ref p4, .ref p5, .ref p6]) = H3 at P1 s7 e7 ⊢
    refine ⟨_, rfl, lz 3 (by decide), fun p1' h1 => ⟨lz 2 (by decide), fun p2' h2 => ⟨lz 1 (by decide), fun p3' h3 => ⟨lz 2 (by decide), fun p4' h4 => ⟨lz 4 (by decide), fun p5' h5 => ?_⟩⟩⟩⟩⟩
    have P2 : Paired (fun r (ns : List Str) => (upd (upd (upd (upd (upd H3 p1' (.lst [.str "w", .str "p", .str "mqrt"])) p2' (.lst [.str "left", .str "right"])) p3' (.lst [.str "i"])) p4' (.lst [.str "quick", .str "nv"])) p5' (.lst [.ref p1', .ref p2', .ref p3', .ref p4'])) r = some (.lst (ns.map V.str))) [p1', p2', p3', p4'] nms2 := by
      refine .cons ?_ (.cons ?_ (.cons ?_ (.cons ?_ .nil)))
      · exact ((((Same.new h2).up h3).up h4).up h5) _ _ upd_same
      · exact (((Same.new h3).up h4).up h5) _ _ upd_same
      · exact ((Same.new h4).up h5) _ _ upd_same
      · exact (Same.new h5) _ _ upd_same
    have s8 : Same H3 (upd (upd (upd (upd (upd H3 p1' (.lst [.str "w", .str "p", .str "mqrt"])) p2' (.lst [.str "left", .str "right"])) p3' (.lst [.str "i"])) p4' (.lst [.str "quick", .str "nv"])) p5' (.lst [.ref p1', .ref p2', .ref p3', .ref p4'])) := (((((Same.new h1).up h2).up h3).up h4).up h5)
    have e8 : (upd (upd (upd (upd (upd H3 p1' (.lst [.str "w", .str "p", .str "mqrt"])) p2' (.lst [.str "left", .str "right"])) p3' (.lst [.str "i"])) p4' (.lst [.str "quick", .str "nv"])) p5' (.lst [.ref p1', .ref p2', .ref p3', .ref p4'])) p5' = some (.lst [.ref p1', .ref p2', .ref p3', .ref p4']) := upd_same
    generalize upd (upd (upd (upd (upd H3 p1' (.lst [.str "w", .str "p", .str "mqrt"])) p2' (.lst [.str "left", .str "right"])) p3' (.lst [.str "i"])) p4' (.lst [.str "quick", .str "nv"])) p5' (.lst [.ref p1', .ref p2', .ref p3', .ref p4']) = H4 at P2 s8 e8 ⊢
    refine ⟨p7, p5', _, _, rfl, rfl, s8 _ _ e7, e8, lz 10 (by decide), fun so hso => ?_⟩
    have s9 := Same.new (o := .lst ([.ref p1, .ref p2, .ref p3, .ref p4, .ref p5, .ref p6] ++ [.ref p1', .ref p2', .ref p3', .ref p4'])) hso
    have PA : Paired (fun r (ns : List Str) => (upd H4 so (.lst ([.ref p1, .ref p2, .ref p3, .ref p4, .ref p5, .ref p6] ++ [.ref p1', .ref p2', .ref p3', .ref p4']))) r = some (.lst (ns.map V.str))) [p1, p2, p3, p4, p5, p6, p1', p2', p3', p4'] (nms1 ++ nms2) :=
      paired_append (Paired.mapP P1 fun _ _ z => s9 _ _ (s8 _ _ z)) (Paired.mapP P2 fun _ _ z => s9 _ _ z)
    have s29 := (s7.trans s8).trans s9
    have f5 := f2.keep s29
    have k5 : SameX fl H (upd H4 so (.lst ([.ref p1, .ref p2, .ref p3, .ref p4, .ref p5, .ref p6] ++ [.ref p1', .ref p2', .ref p3', .ref p4']))) := k2.trans (.of s29)
    have eo5 := s29 _ _ eo2
    have nso := fne (f2.keep (s7.trans s8)) hso
    have hsoH : H so = none := by
      cases e : H so with
      | none => rfl
      | some o => rw [(s7.trans s8) _ _ (k2 _ _ e nso)] at hso; cases hso
    have eso : (upd H4 so (.lst ([.ref p1, .ref p2, .ref p3, .ref p4, .ref p5, .ref p6] ++ [.ref p1', .ref p2', .ref p3', .ref p4']))) so = some (.lst ([p1, p2, p3, p4, p5, p6, p1', p2', p3', p4'].map V.ref)) := upd_same
    generalize [p1, p2, p3, p4, p5, p6, p1', p2', p3', p4'] = ps10 at PA eso
    generalize upd H4 so (.lst ([.ref p1, .ref p2, .ref p3, .ref p4, .ref p5, .ref p6] ++ [.ref p1', .ref p2', .ref p3', .ref p4'])) = H5 at PA s9 s29 f5 k5 eo5 eso ⊢
    have h10 : ps10.length = 10 := Paired.length PA
    refine ⟨_, rfl, _, rfl, fl, so, _, rfl, f5, eso, nso, by rw [List.length_map]; omega, by rw [List.length_map]; omega, fun H6 x s6 f6 hx => ?_⟩
    obtain ⟨r, hr1, rfl⟩ := List.mem_map.mp hx
    obtain ⟨ns, hns, hr2⟩ := paired_memL PA hr1
    obtain ⟨o1, o2, o3, o4, o5⟩ := nms_ok ns hns
    have str2 : ∀ {H : Hp}, FeedAt H fl → ∀ {b : Addr}, H b = some (.lst (ns.map V.str)) → b ≠ fl := fun hF b e z => by
      obtain ⟨_, _, _, _, e'⟩ := hF
      rw [z, e'] at e
      cases ns with
      | nil => cases e
      | cons _ _ => cases e
    have nr := str2 f5 hr2
    have er6 := s6 _ _ hr2 nr
    have k6 : SameX fl H H6 := k5.trans s6
    have eo6 := s6 _ _ eo5 nfo
    have nro : r ≠ fo := fun z => by
      rw [z, eo5] at hr2
      have := congrArg (fun o => match o with | some (.lst l) => l.length | _ => 0) hr2
      simp at this
      omega
    refine ⟨r, rfl, ⟨_, SqL.of er6⟩, for_it (walk_list (K := K) (xs := ns.map V.str)) (fun i σ H1 => ∃ (rs : List Addr) (ls : List Ln) (v5 v6 : Option V), σ = [some (.ref fl), some (.int 20), some (.int n), some (.ref fo), some (.ref so), v5, v6, none] ∧ SameX fl H H1 ∧ FeedAt H1 fl ∧ H1 r = some (.lst (ns.map V.str)) ∧
        H1 fo = some (.lst (rs.map V.ref)) ∧ Paired (LaneX fo H1) rs ls ∧ (∀ l ∈ ls, LnOk l n) ∧ ls.map Ln.nm = ns.take i)
      ⟨[], [], none, none, rfl, k6, f6, er6, eo6, .nil, (fun l h => by cases h), rfl⟩ (fun i σ H1 _ ⟨_, _, _, _, _, _, _, e, _⟩ => SqL.of e) ?_ ?_⟩
    · rintro i y σ Hz H7 hi ⟨rs, ls, v5, v6, rfl, kx, ff, er, eo, hP, hok, hnm⟩ ⟨rfl, ey⟩
      obtain ⟨nm, hnm', rfl⟩ : ∃ z, ns[i]? = some z ∧ y = .str z := by
        rw [List.getElem?_map] at ey
        cases e : ns[i]? with
        | none => rw [e] at ey; cases ey
        | some z => rw [e] at ey; exact ⟨z, rfl, (Option.some.inj ey).symm⟩
      have hrs : rs.length = ls.length := Paired.length hP
      have hll : ls.length = i := by
        have := congrArg List.length hnm
        have hi' : i < ns.length := (List.getElem?_eq_some_iff.mp hnm').1
        simp at this
        omega
      have hi' : i < ns.length := (List.getElem?_eq_some_iff.mp hnm').1
      -- samples
      refine ⟨_, rfl, fl, rfl, ff, fun H8 sa ss s8 f8 hsa hSL hSs hS4 => ?_⟩
      have eo8 := s8 _ _ eo nfo
      have nsf : sa ≠ fo := Ne.symm (ne_of_none eo hsa)
      obtain ⟨rsa, esa, hSR⟩ := hSL
      have hsl := hSR.len
      have tb := tot_bd hS4
      have hs1 := hSs.2.1
      have hs2 := hSs.2.2.1
      refine ⟨_, rfl, .inl ⟨rfl, _, SqL.of eo8⟩, _, rfl, _, rfl, _, rfl, _, rfl, sa, rfl, ⟨_, SqL.of esa⟩, fun Dd hD => ?_⟩
      refine lc_vals walk_list ((ss.map Smp.ln).map V.int) (by simp [hsl]) hD (small_size (by simp; omega)) (fun H9 s9' => SqL.of (s9' _ _ esa)) ?_ ?_
      · rintro j z Ha Hb acc hj s9' eD ⟨rfl, ez⟩ N hN
        obtain ⟨u, sm, rfl, g1, g2, g3⟩ := tl_get hSR ez
        refine ⟨rfl, _, rfl, u, _, _, _, rfl, rfl, SqT.of (s9' _ _ g3), at1 rfl, ?_⟩
        exact hN _ _ (by simp [g2]) (Same.refl _)
      · intro H9 s9' eD
        have f9 := f8.keep s9'
        have tbt : (ss.map Smp.ln).sum = tot ss := rfl
        refine ⟨Dd, ss.map Smp.ln, rfl, SqL.of eD, _, rfl, fl, _, n, rfl, by rw [tbt]; omega, by rw [tbt]; omega, by omega, f9, fun Ha pa ps sA fA hpa hPL hPok hden hmom => ?_⟩
        obtain ⟨rpa, epa, hPR⟩ := hPL
        have k79 : SameX fl H7 H9 := s8.trans (.of s9')
        have k7a : SameX fl H7 Ha := k79.trans sA
        have eo9 := s9' _ _ eo8
        have npf : pa ≠ fo := Ne.symm (ne_of_none eo9 hpa)
        refine ⟨lz 3 (by decide), fun tu htu => ?_⟩
        have sT := Same.new (o := .tup [.str nm, .ref sa, .ref pa]) htu
        have eoa := k7a _ _ eo nfo
        refine ⟨fo, _, _, rfl, rfl, sT _ _ eoa, small_size (by rw [List.length_map]; omega), ?_⟩
        have kL : SameL fl fo H7 (upd (upd Ha tu (.tup [.str nm, .ref sa, .ref pa])) fo (.lst (rs.map V.ref ++ [.ref tu]))) := fun b o e n1 n2 => by
          rw [upd_ne n2]
          exact sT _ _ (k7a _ _ e n1)
        have ntf : tu ≠ fo := Ne.symm (ne_of_none eoa htu)
        have cL : ∀ b o, Ha b = some o → b ≠ fo → (upd (upd Ha tu (.tup [.str nm, .ref sa, .ref pa])) fo (.lst (rs.map V.ref ++ [.ref tu]))) b = some o := fun b o e n2 => by
          rw [upd_ne n2]
          exact sT _ _ e
        have nlf : ∀ {rs : List Addr} {b : Addr}, H8 b = some (.lst (rs.map V.ref)) → b ≠ fl := fun {rs b} e z => by
          obtain ⟨_, _, _, _, e'⟩ := f8
          rw [z, e'] at e
          cases rs with
          | nil => cases e
          | cons _ _ => cases e
        have ntl : ∀ {b : Addr} {ys : List V}, H8 b = some (.tup ys) → b ≠ fl := fun {b ys} e z => by
          obtain ⟨_, _, _, _, e'⟩ := f8
          rw [z, e'] at e
          cases e
        have nto : ∀ {H : Hp} {b : Addr} {ys xs : List V}, H fo = some (.lst xs) → H b = some (.tup ys) → b ≠ fo := fun {H b ys xs} e0 e z => by
          rw [z, e0] at e
          cases e
        have esa' : Ha sa = some (.lst (rsa.map V.ref)) := sA _ _ (s9' _ _ esa) (nlf esa)
        refine ⟨rs ++ [tu], ls ++ [⟨nm, ss, ps⟩], some (.str nm), some (.ref sa), rfl, ?_, ?_, ?_, ?_, ?_, ?_, ?_⟩
        · exact fun b o e n1 => kL _ _ (kx _ _ e n1) n1 (ne_of_none e hfoH)
        · obtain ⟨d, s', d0, s0, e⟩ := fA
          exact ⟨d, s', d0, s0, cL _ _ e (Ne.symm nfo)⟩
        · exact kL _ _ er (str2 ff er) nro
        · rw [upd_same, List.map_append]
          rfl
        · refine paired_append (Paired.mapP hP fun _ _ z => z.keep ff eo kL) (.cons ⟨sa, pa, nsf, npf, ?_, ⟨rsa, cL _ _ esa' nsf, ?_⟩, ⟨rpa, cL _ _ epa npf, ?_⟩⟩ .nil)
          · rw [upd_ne ntf]
            exact upd_same
          · exact Paired.mapP hSR fun _ _ z => cL _ _ (sA _ _ (s9' _ _ z) (ntl z)) (nto eo8 z)
          · exact Paired.mapP hPR fun _ _ z => cL _ _ z (nto eoa z)
        · intro l hl
          rcases List.mem_append.mp hl with hl | hl
          · exact hok l hl
          · rw [List.mem_singleton.mp hl]
            have hml := mm_len (dens ps) false
            have hpl := len_dens hPok
            exact ⟨o1 nm (List.mem_of_getElem? hnm'), hSs, hPok, by show ps.length ≤ 100000; omega, hden, by have : MAXL = 1000000000 := rfl; omega, hmom, by show mm false (dens ps) ≤ 100000; omega⟩
        · rw [List.map_append, hnm, take_more hnm']
          rfl
    · rintro σ H7 ⟨rs, ls, v5, v6, rfl, kx, ff, er, eo, hP, hok, hnm⟩
      rw [List.length_map, List.take_of_length_le (Nat.le_refl _)] at hnm
      have hl : ls.length = ns.length := by have := congrArg List.length hnm; simpa using this
      exact ⟨_, rfl, q H7 fo ls n kx ff ⟨rs, eo, Paired.mapP hP fun _ _ z => z.lane⟩ ⟨hok, by omega, by omega, by rw [hnm]; exact o4⟩ (by omega) (by rw [hnm]; exact o5) nfo⟩
end
end K24

/-! part LE -/
set_option Elab.async false
set_option linter.all false
set_option maxRecDepth 100000
set_option maxHeartbeats 4000000
namespace K24
open PySem PySem.Spec PyProof.Rows L2
def moV : Option Int → V
  | none => .non
  | some i => .int i
def spMom : Sp := fun vs H Q _ => ∃ (a : Addr) (ps : List Pc), vs = [.ref a] ∧ TL pcV H a ps ∧ (∀ p ∈ ps, Pok p) ∧ (dens ps).length ≤ 1000 ∧ ∀ H' b, Same H H' → H b = none → H' b = some (.lst ((dens ps).map moV)) → Q (.ref b) H'
theorem flat_rep {α : Type} (n : Nat) (a : α) : (List.replicate n [a]).flatten = List.replicate n a := by
  induction n with
  | zero => rfl
  | succ n ih => rw [List.replicate_succ, List.flatten_cons, ih, List.replicate_succ]; rfl
theorem dens_take {ps : List Pc} {i : Nat} {p : Pc} (h : ps[i]? = some p) : dens (ps.take (i + 1)) = dens (ps.take i) ++ den p := by
  rw [take_more h, dens_app, dens_one]
theorem den_take_le {ps : List Pc} (i : Nat) : (dens (ps.take i)).length ≤ (dens ps).length := by
  have := congrArg (fun l => (dens l).length) (List.take_append_drop i ps)
  simp only [dens_app, List.length_append] at this
  omega
theorem iteL {c : Prop} [Decidable c] {A B : Prop} (h : c → A) (hc : c) : if c then A else B := by rw [if_pos hc]; exact h hc
section
variable {P : Program} {w : World} {K : PySem.W.Frag} {mg : Str → Option Value} {base : Heap}
theorem sc__law_moments : FnScope ["_law_pieces_here", "_law_found", "_law_piece", "_law_x"] ["_law_pieces_here"] (defScope (top 47)) := ⟨rfl, rfl, rfl, by decide +kernel, rfl, by decide +kernel, by decide +kernel⟩
theorem ok_law_moments (T : Tx K mg) (D : Has K (dN "_law_moments" 47)) (g : mg "_law_moments" = some (.ref (He.fAd K ("_law_moments", none)))) : OkG P w K mg base 1 "_law_moments" ["_law_pieces_here"] spMom := by
  refine okG D g sc__law_moments (fun _ _ _ _ _ _ us hl => match us, hl with | [_], _ => rfl) (fun vs H Q E h => ?_) (fun f cdv A outer s H vs Q E hr h => ?_)
  · obtain ⟨a, ps, rfl, _⟩ := h
    rfl
  · obtain ⟨a, ps, rfl, ⟨rs, eL, hR⟩, ok, hlen, q⟩ := h
    refine ⟨_, PSs.nox (pss_cons (ps_set (i := 1) sc__law_moments.nd rfl (Or.inl rfl) (pe_lst pa_nil))
      (pss_cons (ps_for PassesOwn.never rfl (pi_list (pv 0)) (pg_name (i := 2) sc__law_moments.nd rfl (Or.inr rfl))
        (pss_one (ps_if (pt_cmpR op_eq (pe_ix ix_tup (pv 2) pe_int (fun _ _ => rfl)) pe_str (nomark _))
            (pss_one (ps_set (i := 1) sc__law_moments.nd rfl (Or.inl rfl) (pe_op op_cat (pv 1) (pe_op op_rep (pe_lst (pa_cons pe_non pa_nil)) (pe_ix ix_tup (pv 2) pe_int (fun _ _ => rfl))))))
            (pss_one (ps_set (i := 1) sc__law_moments.nd rfl (Or.inl rfl) (pe_op op_cat (pv 1) (pe_lc (own := [("_law_x", 3)]) rfl sc__law_moments.nd (pi_range1 rfl T.range (pa_cons (pe_ix ix_tup (pv 2) pe_int (fun _ _ => rfl)) pa_nil)) (blkOk_by (N := ["_law_pieces_here", "_law_found", "_law_piece", "_law_x"]) (sc := (defScope (top 47))) (by decide +kernel)) (fun _ _ _ _ _ => (pg_name (i := 3) sc__law_moments.nd rfl (Or.inl rfl))) (fun _ _ _ _ _ => pts_nil) (fun _ _ _ _ _ => (pe_op op_add (pe_ix (ixTK (K := K)) (pv 2) pe_int (fun _ _ => rfl)) (pe_op op_mul (pe_ix (ixTK (K := K)) (pv 2) pe_int (fun _ _ => rfl)) (pv 3)))))))))))
      (pss_one (ps_ret (pv 1))))), ?_⟩
    refine ⟨Nat.zero_le _, fun f0 hf0 => ?_⟩
    have s0 := Same.new (o := .lst []) hf0
    have hpl := len_dens ok
    have hrl := hR.len
    refine ⟨_, rfl, a, rfl, ⟨_, SqL.of (s0 _ _ eL)⟩, for_it (walk_list (K := K) (xs := rs.map V.ref)) (fun i σ H1 => ∃ (fo : Addr) (v2 : Option V), σ = [some (.ref a), some (.ref fo), v2, none] ∧ Same H H1 ∧ H fo = none ∧ H1 fo = some (.lst ((dens (ps.take i)).map moV)))
      ⟨f0, none, rfl, s0, hf0, upd_same⟩ (fun i σ H1 _ ⟨_, _, _, sm, _⟩ => SqL.of (sm _ _ eL)) ?_ ?_⟩
    · rintro i y σ Hz H1 hi ⟨fo, v2, rfl, sm, hfo, eo⟩ ⟨rfl, ey⟩
      obtain ⟨r, p, rfl, g1, g2, g3⟩ := tl_get hR ey
      have hT : SqT K H1 r (pcV p) := SqT.of (sm _ _ g3)
      have hp := ok p (List.mem_of_getElem? g2)
      have hdt := dens_take g2
      have hle := den_take_le (ps := ps) (i + 1)
      rw [hdt, List.length_append] at hle
      have hdl := den_lenI hp
      refine ⟨_, rfl, r, _, _, _, rfl, rfl, hT, at0 (head_eq p), rfl, _, rfl, ?_⟩
      cases p with
      | no m =>
        rw [dec_nn]
        have hm0 : 1 ≤ m := hp
        have hm1 : ((den (.no m)).length : Int) = m := hdl
        refine ⟨_, rfl, (by show 1 ≤ sizeLine; rw [sizeLine_eq]; omega), fun b hb => ⟨_, rfl, r, _, _, _, rfl, rfl, SqT.of ((sm.up hb) _ _ g3), at1 rfl, b, m, _, rfl, rfl, upd_same, by omega, by omega, by show 1 * m.toNat ≤ sizeLine; rw [sizeLine_eq]; omega, fun c hc => ?_⟩⟩
        have s2 := (sm.up (o := .lst [V.non]) hb).up (o := .lst (List.replicate m.toNat [V.non]).flatten) hc
        have s1b : Same H1 (upd (upd H1 b (.lst [V.non])) c (.lst (List.replicate m.toNat [V.non]).flatten)) := (Same.new hb).up hc
        refine ⟨fo, c, _, _, rfl, rfl, s1b _ _ eo, upd_same, by rw [flat_rep, List.length_map, List.length_replicate, sizeLine_eq]; omega, fun e he => ?_⟩
        refine ⟨e, some (.ref r), rfl, s2.up he, s2.free he, ?_⟩
        rw [upd_same, hdt, flat_rep, List.map_append]
        unfold den
        rw [List.map_replicate]
        rfl
      | pl s l t =>
        rw [dec_pn]
        have hl0 : 1 ≤ l := hp.2.1
        have hl1 : ((den (.pl s l t)).length : Int) = l := hdl
        refine ⟨_, rfl, _, rfl, r, _, _, _, rfl, rfl, hT, at2 rfl, l, rfl, by omega, by omega, fun Dd hD => ?_⟩
        refine lc_vals walk_range ((den (.pl s l t)).map moV) (by rw [List.length_map]; omega) hD (small_size (by omega)) (fun _ _ => True.intro) ?_ ?_
        · rintro j z Ha Hb acc hj s9 eD ⟨rfl, rfl⟩ N hN
          refine ⟨rfl, _, rfl, r, _, _, _, rfl, rfl, SqT.of (s9 _ _ (sm _ _ g3)), at1 rfl, _, rfl, r, _, _, _, rfl, rfl, SqT.of (s9 _ _ (sm _ _ g3)), at3 rfl, _, rfl, _, _, rfl, rfl, .inr ⟨by omega, by omega⟩, _, _, rfl, rfl, ?_⟩
          refine hN _ _ ?_ (Same.refl _)
          rw [List.getElem?_map, den_pl_get (by omega)]
          show some (V.int (s + t * (j : Int))) = some (V.int (s + t * (0 + (j : Int))))
          rw [Int.zero_add]
        · intro H2 s9 eD
          refine ⟨fo, Dd, _, _, rfl, rfl, s9 _ _ eo, eD, by rw [List.length_map, List.length_map, sizeLine_eq]; omega, fun e he => ?_⟩
          have s2 := sm.trans s9
          refine ⟨e, some (.ref r), rfl, s2.up he, s2.free he, ?_⟩
          rw [upd_same, hdt, List.map_append]
    · rintro σ H1 ⟨fo, v2, rfl, sm, hfo, eo⟩
      rw [List.length_map, List.take_of_length_le (by omega)] at eo
      exact ⟨_, rfl, q H1 fo sm hfo eo⟩
end
end K24

/-! part LF -/
set_option Elab.async false
set_option linter.all false
set_option maxRecDepth 100000
set_option maxHeartbeats 4000000
namespace K24
open PySem PySem.Spec PyProof.Rows L2
theorem pt_imp {X : Cx} {e : Expr} {t t' : L2.TT} (he : PT X e t) (h : ∀ σ H Q, t' σ H Q → t σ H Q) : PT X e t' := ⟨fun pins s σ H Q I q => he.run pins s σ H Q I (h σ H Q q)⟩
/-- a row of moments, told in pieces -/
def spTold : Sp := fun vs H Q _ => ∃ (a : Addr) (row : Mo), vs = [.ref a] ∧ H a = some (.lst (row.map moV)) ∧ row.length ≤ 1000 ∧ (∀ m, some m ∈ row → 0 ≤ m) ∧
  ∀ H' t ps, Same H H' → TT pcV H' t ps → (∀ p ∈ ps, Pok p) → dens ps = row → Q (.ref t) H'
def tEnd1 : L2.TT := fun σ H Q => ∃ (ra fo : Addr) (row : Mo) (i e : Nat) (v4 : Option V), σ = [some (.ref ra), some (.ref fo), some (.int i), some (.int e), v4] ∧ H ra = some (.lst (row.map moV)) ∧ e ≤ row.length ∧ Q (decide (row[e]? = some none)) H
def tEnd2 : L2.TT := fun σ H Q => ∃ (ra fo : Addr) (row : Mo) (i e : Nat) (st m0 : Int), σ = [some (.ref ra), some (.ref fo), some (.int i), some (.int ((e : Int) + 1)), some (.int st)] ∧ H ra = some (.lst (row.map moV)) ∧ e + 1 ≤ row.length ∧ row[e]? = some (some m0) ∧ Q (decide (row[e + 1]? = some (some (m0 + st)))) H
def tStep : TS := fun D σ H => ∃ (ra fo : Addr) (row : Mo) (i : Nat) (s : Int), σ = [some (.ref ra), some (.ref fo), some (.int i), some (.int ((i : Int) + 1)), some (.int 1)] ∧ H ra = some (.lst (row.map moV)) ∧ row[i]? = some (some s) ∧
  ∀ st, 1 ≤ st → D.nx [some (.ref ra), some (.ref fo), some (.int i), some (.int ((i : Int) + 1)), some (.int st)] H
def tPc : TS := fun D σ H => ∃ (ra fo : Addr) (row : Mo) (i : Nat) (v4 : Option V) (xs : List V), σ = [some (.ref ra), some (.ref fo), some (.int i), some (.int ((i : Int) + 1)), v4] ∧ H ra = some (.lst (row.map moV)) ∧ H fo = some (.lst xs) ∧ ra ≠ fo ∧ i < row.length ∧ row.length ≤ 1000 ∧ xs.length ≤ 1000 ∧ (∀ m, some m ∈ row → 0 ≤ m) ∧
  ∀ H' r p (e : Nat) v4', (∀ b o, H b = some o → b ≠ fo → H' b = some o) → H' fo = some (.lst (xs ++ [.ref r])) → H' r = some (.tup (pcV p)) → Pok p → i < e → e ≤ row.length → den p = (row.drop i).take (e - i) → D.nx [some (.ref ra), some (.ref fo), some (.int i), some (.int e), v4'] H'
theorem mo_at {row : Mo} {i : Nat} {x : Option Int} (h : row[i]? = some x) : atI (row.map moV) i = some (moV x) := atI_nat (by rw [List.getElem?_map, h]; rfl)
theorem mo_at1 {row : Mo} {i : Nat} {x : Option Int} (h : row[i + 1]? = some x) : atI (row.map moV) ((i : Int) + 1) = some (moV x) := mo_at h
theorem mo_none {x : Option Int} : decide (moV x = V.non) = decide (x = none) := by
  cases x <;> simp [moV]
theorem row_no {row : Mo} {i e : Nat} (hi : i < e) (he : e ≤ row.length) (h : ∀ j, i ≤ j → j < e → row[j]? = some none) : den (.no ((e : Int) - i)) = (row.drop i).take (e - i) := by
  apply List.ext_getElem?
  intro k
  have h1 : ((e : Int) - i).toNat = e - i := by omega
  show (List.replicate ((e : Int) - i).toNat none)[k]? = _
  rw [h1, List.getElem?_replicate]
  by_cases hk : k < e - i
  · rw [if_pos hk, List.getElem?_take_of_lt hk, List.getElem?_drop, h (i + k) (by omega) (by omega)]
  · rw [if_neg hk, List.getElem?_take_eq_none (by omega)]
theorem row_pl {row : Mo} {i e : Nat} {s st : Int} (hi : i < e) (he : e ≤ row.length) (h : ∀ j, i ≤ j → j < e → row[j]? = some (some (s + st * ((j : Int) - i)))) : den (.pl s ((e : Int) - i) (if (e : Int) - i > 1 then st else 1)) = (row.drop i).take (e - i) := by
  apply List.ext_getElem?
  intro k
  have h1 : ((e : Int) - i).toNat = e - i := by omega
  by_cases hk : k < e - i
  · rw [den_pl_get (by omega), List.getElem?_take_of_lt hk, List.getElem?_drop, h (i + k) (by omega) (by omega)]
    have e1 : (((i + k : Nat) : Int) - i) = k := by omega
    rw [e1]
    by_cases h2 : (e : Int) - i > 1
    · rw [if_pos h2]
    · have : k = 0 := by omega
      subst this
      simp
  · rw [List.getElem?_take_eq_none (by omega), List.getElem?_eq_none (by rw [den_len]; show ((e : Int) - i).toNat ≤ k; omega)]
section
variable {P : Program} {w : World} {K : PySem.W.Frag} {mg : Str → Option Value} {base : Heap}
theorem sc__law_told : FnScope ["_law_row", "_law_found", "_law_at", "_law_end", "_law_step"] ["_law_row"] (defScope (top 49)) := ⟨rfl, rfl, rfl, by decide +kernel, rfl, by decide +kernel, by decide +kernel⟩
theorem ok_law_told (T : Tx K mg) (D : Has K (dN "_law_told" 49)) (g : mg "_law_told" = some (.ref (He.fAd K ("_law_told", none)))) : OkG P w K mg base 1 "_law_told" ["_law_row"] spTold := by
  refine okG D g sc__law_told (fun _ _ _ _ _ _ us hl => match us, hl with | [_], _ => rfl) (fun vs H Q E h => ?_) (fun f cdv A outer s H vs Q E hr h => ?_)
  · obtain ⟨a, row, rfl, _⟩ := h
    rfl
  · obtain ⟨a, row, rfl, hL, hlen, hnn, q⟩ := h
    refine ⟨_, PSs.nox (pss_cons (ps_par (i := 1) (j := 2) rfl sc__law_told.nd rfl rfl (by decide) rfl rfl (pa_cons (pe_lst pa_nil) (pa_cons pe_int pa_nil)) (by rfl))
      (pss_cons (ps_while PassesOwn.never (pt_cmpR op_lt (pv 2) (pe_callB call_len (by rfl) T.len PySem.boot_len (pa_cons (pv 0) pa_nil)) (nomark _))
        (pss_cons (ps_set (i := 3) sc__law_told.nd rfl (Or.inl rfl) (pe_op op_add (pv 2) pe_int))
          (pss_cons (ps_imp (t' := tPc) (ps_if (pt_cmpR op_isN (pe_ix ix_list (pv 0) (pv 2) (fun _ _ => rfl)) pe_non (nomark _))
            (pss_cons (ps_while PassesOwn.never (pt_imp (t' := tEnd1) (PW.pt (pw_and (pt_cmpR op_lt (pv 3) (pe_callB call_len (by rfl) T.len PySem.boot_len (pa_cons (pv 0) pa_nil)) (nomark _)) (pw_and1 (pt_cmpR op_isN (pe_ix ix_list (pv 0) (pv 3) (fun _ _ => rfl)) pe_non (nomark _))))) ?e1)
                (pss_one (ps_set (i := 3) sc__law_told.nd rfl (Or.inl rfl) (pe_op op_add (pv 3) pe_int))))
              (pss_one (ps_expr (pe_bm PySem.F.plainAttrs_list PySem.F.slot_list_append PySem.F.type_list_append mt_append (pv 1) (pa_cons (pe_tup (pa_cons pe_str (pa_cons (pe_op op_sub (pv 3) (pv 2)) pa_nil))) pa_nil)))))
            (pss_cons (ps_set (i := 4) sc__law_told.nd rfl (Or.inl rfl) pe_int)
              (pss_cons (ps_imp (t' := tStep) (ps_if (PW.pt (pw_and (pt_cmpR op_lt (pv 3) (pe_callB call_len (by rfl) T.len PySem.boot_len (pa_cons (pv 0) pa_nil)) (nomark _)) (pw_and (pt_cmpR op_notN (pe_ix ix_list (pv 0) (pv 3) (fun _ _ => rfl)) pe_non (nomark _)) (pw_and1 (pt_cmpR op_gt (pe_ix ix_list (pv 0) (pv 3) (fun _ _ => rfl)) (pe_ix ix_list (pv 0) (pv 2) (fun _ _ => rfl)) (nomark _))))))
                (pss_one (ps_set (i := 4) sc__law_told.nd rfl (Or.inl rfl) (pe_op op_sub (pe_ix ix_list (pv 0) (pv 3) (fun _ _ => rfl)) (pe_ix ix_list (pv 0) (pv 2) (fun _ _ => rfl)))))
                pss_nil) ?st)
              (pss_cons (ps_while PassesOwn.never (pt_imp (t' := tEnd2) (PW.pt (pw_and (pt_cmpR op_lt (pv 3) (pe_callB call_len (by rfl) T.len PySem.boot_len (pa_cons (pv 0) pa_nil)) (nomark _)) (pw_and (pt_cmpR op_notN (pe_ix ix_list (pv 0) (pv 3) (fun _ _ => rfl)) pe_non (nomark _)) (pw_and1 (pt_cmpR op_eq (pe_op op_sub (pe_ix ix_list (pv 0) (pv 3) (fun _ _ => rfl)) (pe_ix ix_list (pv 0) (pe_op op_sub (pv 3) pe_int) (fun _ _ => rfl))) (pv 4) (nomark _)))))) ?e2)
                (pss_one (ps_set (i := 3) sc__law_told.nd rfl (Or.inl rfl) (pe_op op_add (pv 3) pe_int))))
              (pss_one (ps_expr (pe_bm PySem.F.plainAttrs_list PySem.F.slot_list_append PySem.F.type_list_append mt_append (pv 1) (pa_cons (pe_tup (pa_cons pe_str (pa_cons (pe_ix ix_list (pv 0) (pv 2) (fun _ _ => rfl)) (pa_cons (pe_op op_sub (pv 3) (pv 2)) (pa_cons (pe_ifExp (pt_cmpR op_gt (pe_op op_sub (pv 3) (pv 2)) pe_int (nomark _)) (pv 4) pe_int) pa_nil))))) pa_nil)))))))) ?pc)
          (pss_one (ps_set (i := 2) sc__law_told.nd rfl (Or.inl rfl) (pv 3))))))
      (pss_one (ps_ret (pe_callTy call_tuple_of (by rfl) T.tuple (by decide +kernel) (pa_cons (pv 1) pa_nil)))))), ?_⟩
    case e1 =>
      rintro σ H1 N ⟨ra, fo, row, i, e, v4, rfl, hra, he, k⟩
      refine ⟨_, rfl, _, rfl, _, row.length, rfl, .inl ⟨_, SqL.of hra, by rw [List.length_map]⟩, _, _, rfl, rfl, _, rfl, ?_⟩
      by_cases hlt : e < row.length
      · rw [decide_eq_true (show (e : Int) < row.length by omega)]
        have hx := List.getElem?_eq_getElem hlt
        refine ⟨_, rfl, _, rfl, ra, _, _, _, rfl, rfl, SqL.of hra, mo_at hx, rfl, _, rfl, ?_⟩
        rw [mo_none]
        rw [hx] at k
        have e1 : decide (row[e] = none) = decide (some row[e] = some none) := by
          cases row[e] <;> simp
        rw [e1]
        exact k
      · rw [decide_eq_false (show ¬ (e : Int) < row.length by omega)]
        have hx : row[e]? = none := List.getElem?_eq_none (by omega)
        rw [hx] at k
        exact k
    case st =>
      rintro D0 σ H1 ⟨ra, fo, row, i, s, rfl, hra, hs, k⟩
      refine ⟨_, rfl, _, rfl, _, row.length, rfl, .inl ⟨_, SqL.of hra, by rw [List.length_map]⟩, _, _, rfl, rfl, _, rfl, ?_⟩
      by_cases hlt : i + 1 < row.length
      · rw [decide_eq_true (show (i : Int) + 1 < row.length by omega)]
        have hx := List.getElem?_eq_getElem hlt
        generalize row[i + 1] = x at hx
        refine ⟨_, rfl, _, rfl, ra, _, _, _, rfl, rfl, SqL.of hra, mo_at1 hx, rfl, _, rfl, ?_⟩
        cases x with
        | none => exact k 1 (Int.le_refl _)
        | some m =>
          refine ⟨_, rfl, _, rfl, ra, _, _, _, rfl, rfl, SqL.of hra, mo_at1 hx, _, rfl, _, rfl, ra, _, _, _, rfl, rfl, SqL.of hra, mo_at hs, _, _, rfl, rfl, _, rfl, ?_⟩
          by_cases hgt : s < m
          · rw [decide_eq_true hgt]
            exact ⟨_, rfl, _, rfl, ra, _, _, _, rfl, rfl, SqL.of hra, mo_at1 hx, _, rfl, _, rfl, ra, _, _, _, rfl, rfl, SqL.of hra, mo_at hs, _, _, rfl, rfl, k (m - s) (by omega)⟩
          · rw [decide_eq_false hgt]
            exact k 1 (Int.le_refl _)
      · rw [decide_eq_false (show ¬ (i : Int) + 1 < row.length by omega)]
        exact k 1 (Int.le_refl _)
    case e2 =>
      rintro σ H1 N ⟨ra, fo, row, i, e, st, m0, rfl, hra, he, hm0, k⟩
      refine ⟨_, rfl, _, rfl, _, row.length, rfl, .inl ⟨_, SqL.of hra, by rw [List.length_map]⟩, _, _, rfl, rfl, _, rfl, ?_⟩
      by_cases hlt : e + 1 < row.length
      · rw [decide_eq_true (show (e : Int) + 1 < row.length by omega)]
        have hx := List.getElem?_eq_getElem hlt
        generalize row[e + 1] = x at hx
        rw [hx] at k
        refine ⟨_, rfl, _, rfl, ra, _, _, _, rfl, rfl, SqL.of hra, mo_at1 hx, rfl, _, rfl, ?_⟩
        cases x with
        | none => exact k
        | some m =>
          have e0 : (e : Int) + 1 - 1 = e := by omega
          refine ⟨_, rfl, _, rfl, ra, _, _, _, rfl, rfl, SqL.of hra, mo_at1 hx, _, rfl, _, rfl, _, _, rfl, rfl, ra, _, _, _, rfl, rfl, SqL.of hra, by rw [e0]; exact mo_at hm0, _, _, rfl, rfl, _, rfl, rfl, _, rfl, ?_⟩
          have ed : decide (V.int (m - m0) = V.int st) = decide (some (some m) = some (some (m0 + st))) := by
            rw [decide_eq_decide]
            constructor
            · intro h
              injection h with h
              congr 2
              omega
            · intro h
              injection h with h
              injection h with h
              congr 1
              omega
          show N (decide (V.int (m - m0) = V.int st)) H1
          rw [ed]
          exact k
      · rw [decide_eq_false (show ¬ (e : Int) + 1 < row.length by omega)]
        have hx : row[e + 1]? = none := List.getElem?_eq_none (by omega)
        rw [hx] at k
        exact k
    case pc =>
      rintro D0 σ H1 ⟨ra, fo, row, i, v4, xs, rfl, hra, hfo, ne, hi, hl, hxs, hnn, k⟩
      have app : ∀ (p : Pc) (e : Nat) (v4' : Option V) (tu : Addr), H1 tu = none → Pok p → i < e → e ≤ row.length → den p = (row.drop i).take (e - i) → (upd H1 tu (.tup (pcV p))) fo = some (.lst xs) ∧
          D0.nx [some (.ref ra), some (.ref fo), some (.int i), some (.int e), v4'] (upd (upd H1 tu (.tup (pcV p))) fo (.lst (xs ++ [.ref tu]))) := fun p e v4' tu htu hp h1 h2 hd => by
        have ntu : tu ≠ fo := Ne.symm (ne_of_none hfo htu)
        refine ⟨by rw [upd_ne (Ne.symm ntu)]; exact hfo, k _ tu p e v4' (fun b o eb nb => ?_) upd_same ?_ hp h1 h2 hd⟩
        · rw [upd_ne nb, upd_ne (ne_of_none eb htu)]
          exact eb
        · rw [upd_ne ntu]
          exact upd_same
      have hsz := small_size (n := xs.length) (by omega)
      have hx0 := List.getElem?_eq_getElem hi
      generalize row[i] = x at hx0
      refine ⟨_, rfl, _, rfl, ra, _, _, _, rfl, rfl, SqL.of hra, mo_at hx0, rfl, _, rfl, ?_⟩
      cases x with
      | none =>
        refine ite2 (fun _ => ?_) (fun h => (h rfl).elim)
        refine while_by (fun σ H2 => ∃ e : Nat, σ = [some (.ref ra), some (.ref fo), some (.int i), some (.int e), v4] ∧ H2 = H1 ∧ i < e ∧ e ≤ row.length ∧ ∀ j, i ≤ j → j < e → row[j]? = some none)
          (fun (σ : L2.St) (_ : Hp) => match σ[3]? with | some (some (V.int e)) => ((row.length : Int) - e).toNat | _ => 0) ⟨i + 1, rfl, rfl, by omega, by omega, fun j h1 h2 => by rw [show j = i by omega]; exact hx0⟩ ?_ ?_
        · rintro σ H2 ⟨e, rfl, rfl, h1, h2, h3⟩
          refine ⟨ra, fo, row, i, e, v4, rfl, hra, h2, ?_⟩
          refine ite2 (fun hc => ?_) (fun hc => ?_)
          · have hc := of_decide_eq_true hc
            have hlt : e < row.length := (List.getElem?_eq_some_iff.mp hc).1
            refine ⟨_, rfl, _, _, rfl, rfl, ⟨e + 1, rfl, rfl, by omega, by omega, fun j g1 g2 => ?_⟩, ?_⟩
            · by_cases z : j = e
              · rw [z]; exact hc
              · exact h3 j g1 (by omega)
            · show ((row.length : Int) - ((e : Int) + 1)).toNat < ((row.length : Int) - e).toNat
              omega
          · refine ⟨_, rfl, .inl ⟨rfl, _, SqL.of hfo⟩, _, rfl, _, rfl, _, _, rfl, rfl, (by show 2 ≤ sizeLine; rw [sizeLine_eq]; omega), fun tu htu => ?_⟩
            obtain ⟨g1, g2⟩ := app (.no ((e : Int) - i)) e v4 tu htu (by show 1 ≤ (e : Int) - i; omega) h1 h2 (row_no h1 h2 h3)
            exact ⟨fo, _, _, rfl, rfl, g1, hsz, g2⟩
        · rintro σ H2 Q1 Q2 h ⟨ra', fo', row', i', e', v', a1, a2, a3, a4⟩
          exact ⟨ra', fo', row', i', e', v', a1, a2, a3, h _ _ a4⟩
      | some s =>
        refine ite2 (fun h => by cases h) (fun _ => ?_)
        refine ⟨ra, fo, row, i, s, rfl, hra, hx0, fun st hst => ?_⟩
        have hs0 : 0 ≤ s := hnn s (List.mem_of_getElem? hx0)
        refine while_by (fun σ H2 => ∃ e : Nat, σ = [some (.ref ra), some (.ref fo), some (.int i), some (.int ((e : Int) + 1)), some (.int st)] ∧ H2 = H1 ∧ i ≤ e ∧ e + 1 ≤ row.length ∧ ∀ j, i ≤ j → j < e + 1 → row[j]? = some (some (s + st * ((j : Int) - i))))
          (fun (σ : L2.St) (_ : Hp) => match σ[3]? with | some (some (V.int e)) => ((row.length : Int) - e).toNat | _ => 0) ⟨i, rfl, rfl, by omega, by omega, fun j h1 h2 => by rw [show j = i by omega, hx0, Int.sub_self, Int.mul_zero, Int.add_zero]⟩ ?_ ?_
        · rintro σ H2 ⟨e, rfl, rfl, h1, h2, h3⟩
          refine ⟨ra, fo, row, i, e, st, _, rfl, hra, h2, h3 e h1 (by omega), ?_⟩
          refine ite2 (fun hc => ?_) (fun hc => ?_)
          · have hc := of_decide_eq_true hc
            have hlt : e + 1 < row.length := (List.getElem?_eq_some_iff.mp hc).1
            refine ⟨_, rfl, _, _, rfl, rfl, ⟨e + 1, rfl, rfl, by omega, by omega, fun j g1 g2 => ?_⟩, ?_⟩
            · by_cases z : j = e + 1
              · rw [z, hc]
                congr 2
                have : (((e + 1 : Nat) : Int) - i) = ((e : Int) - i) + 1 := by omega
                rw [this, Int.mul_add, Int.mul_one]
                omega
              · exact h3 j g1 (by omega)
            · show ((row.length : Int) - ((e : Int) + 1 + 1)).toNat < ((row.length : Int) - ((e : Int) + 1)).toNat
              omega
          · have dp := row_pl (s := s) (st := st) (show i < e + 1 by omega) h2 h3
            have ee : (((e + 1 : Nat) : Int)) = (e : Int) + 1 := rfl
            rw [ee] at dp
            have hpo : Pok (.pl s ((e : Int) + 1 - i) (if (e : Int) + 1 - i > 1 then st else 1)) := ⟨hs0, by omega, by split <;> omega⟩
            refine ⟨_, rfl, .inl ⟨rfl, _, SqL.of hfo⟩, _, rfl, _, rfl, ra, _, _, _, rfl, rfl, SqL.of hra, mo_at hx0, _, rfl, _, rfl, _, _, rfl, rfl, _, rfl, _, rfl, _, _, rfl, rfl, _, _, rfl, rfl, _, rfl, ?_⟩
            by_cases hgt : (1 : Int) < (e : Int) + 1 - i
            · rw [decide_eq_true hgt]
              rw [if_pos (show (e : Int) + 1 - i > 1 from hgt)] at dp hpo
              refine ⟨_, rfl, (by show 4 ≤ sizeLine; rw [sizeLine_eq]; omega), fun tu htu => ?_⟩
              obtain ⟨g1, g2⟩ := app _ (e + 1) (some (.int st)) tu htu hpo (by omega) h2 dp
              exact ⟨fo, _, _, rfl, rfl, g1, hsz, g2⟩
            · rw [decide_eq_false hgt]
              rw [if_neg (show ¬ (e : Int) + 1 - i > 1 from hgt)] at dp hpo
              refine ⟨(by show 4 ≤ sizeLine; rw [sizeLine_eq]; omega), fun tu htu => ?_⟩
              obtain ⟨g1, g2⟩ := app _ (e + 1) (some (.int st)) tu htu hpo (by omega) h2 dp
              exact ⟨fo, _, _, rfl, rfl, g1, hsz, g2⟩
        · rintro σ H2 Q1 Q2 h ⟨ra', fo', row', i', e', st', m', a1, a2, a3, a4, a5⟩
          exact ⟨ra', fo', row', i', e', st', m', a1, a2, a3, a4, h _ _ a5⟩
    -- the walk
    refine ⟨Nat.zero_le _, fun fo hfo => ⟨_, _, rfl, ?_⟩⟩
    have s0 := Same.new (o := .lst []) hfo
    have nra : a ≠ fo := ne_of_none hL hfo
    refine while_by (fun σ H1 => ∃ (i : Nat) (rs : List Addr) (ps : List Pc) (v3 v4 : Option V), σ = [some (.ref a), some (.ref fo), some (.int i), v3, v4] ∧ Same H H1 ∧ H1 fo = some (.lst (rs.map V.ref)) ∧ Tp pcV H1 rs ps ∧ (∀ p ∈ ps, Pok p) ∧ i ≤ row.length ∧ dens ps = row.take i)
      (fun (σ : L2.St) (_ : Hp) => match σ[2]? with | some (some (V.int e)) => ((row.length : Int) - e).toNat | _ => 0) ⟨0, [], [], none, none, rfl, s0, upd_same, .nil, (fun p h => by cases h), Nat.zero_le _, rfl⟩ ?_ ?_
    · rintro σ H1 ⟨i, rs, ps, v3, v4, rfl, sm, eo, hT, hok, hi, hd⟩
      refine ⟨_, rfl, _, rfl, _, row.length, rfl, .inl ⟨_, SqL.of (sm _ _ hL), by rw [List.length_map]⟩, _, _, rfl, rfl, _, rfl, ?_⟩
      have hpl := len_dens hok
      rw [hd, List.length_take] at hpl
      have hrl := hT.len
      refine ite2 (fun hc => ?_) (fun hc => ?_)
      · have hc : (i : Int) < row.length := of_decide_eq_true hc
        refine ⟨_, rfl, _, _, rfl, rfl, a, fo, row, i, v4, _, rfl, sm _ _ hL, eo, nra, by omega, hlen, by rw [List.length_map]; omega, hnn, fun H2 r p e v4' kk eo2 er hp h1 h2 hd2 => ?_⟩
        refine ⟨_, rfl, ⟨e, rs ++ [r], ps ++ [p], some (.int e), v4', rfl, fun b o eb => kk _ _ (sm _ _ eb) (ne_of_none eb hfo), by rw [eo2, List.map_append]; rfl, ?_, fun x hx => ?_, h2, ?_⟩, ?_⟩
        · refine paired_append (Paired.mapP hT fun u x z => kk _ _ z fun q => ?_) (.cons er .nil)
          rw [q, eo] at z
          cases z
        · rcases List.mem_append.mp hx with hx | hx
          · exact hok x hx
          · rw [List.mem_singleton.mp hx]
            exact hp
        · rw [dens_app, dens_one, hd, hd2]
          have : e = i + (e - i) := by omega
          rw [this, List.take_add]
          congr 2
          omega
        · show ((row.length : Int) - e).toNat < ((row.length : Int) - i).toNat
          omega
      · have hc : ¬ (i : Int) < row.length := fun h => hc (decide_eq_true h)
        rw [List.take_of_length_le (by omega)] at hd
        refine ⟨_, rfl, fo, _, rfl, .inl ⟨SqL.of eo, fun t ht => ?_⟩⟩
        have s1 := Same.new (o := .tup (rs.map V.ref)) ht
        exact q _ t ps (sm.trans s1) ⟨rs, upd_same, Tp.keep (f := pcV) hT (.of s1)⟩ hok hd
    · rintro σ H1 Q1 Q2 h ⟨v, a1, v2, a2, x, n, a3, a4, i, j, a5, a6, b, a7, a8⟩
      exact ⟨v, a1, v2, a2, x, n, a3, a4, i, j, a5, a6, b, a7, h _ _ a8⟩
end
end K24

/-! part LG -/
set_option Elab.async false
set_option linter.all false
set_option maxRecDepth 100000
set_option maxHeartbeats 4000000
namespace K24
open PySem PySem.Spec PyProof.Rows L2
theorem cut_to (xs : List V) (k : Nat) : cutV xs none (some (k : Int)) = xs.take k := by
  unfold cutV
  rw [HT.sIx_none, HT.sIx_nat]
  simp
theorem cut_from (xs : List V) (k : Nat) (h : k ≤ xs.length) : cutV xs (some (k : Int)) none = xs.drop k := by
  unfold cutV
  rw [HT.sIx_none, HT.sIx_nat, Nat.min_eq_left h]
  exact List.take_of_length_le (by rw [List.length_drop]; exact Nat.le_refl _)
def grL (L : Mo) (a m : Nat) : Mo := L.take a ++ List.replicate m none ++ L.drop a
theorem gr_len {L : Mo} {a m : Nat} (h : a ≤ L.length) : (grL L a m).length = L.length + m := by
  unfold grL
  rw [List.length_append, List.length_append, List.length_replicate, List.length_drop, List.length_take]
  omega
theorem gr_mem {L : Mo} {a m : Nat} {x : Int} (h : some x ∈ grL L a m) : some x ∈ L := by
  unfold grL at h
  rcases List.mem_append.mp h with h | h
  · rcases List.mem_append.mp h with h | h
    · exact List.mem_of_mem_take h
    · have := List.eq_of_mem_replicate h
      cases this
  · exact List.mem_of_mem_drop h
theorem mm_gr (L : Mo) (a m : Nat) : mm false (grL L a m) ≤ mm false L + 2 := by
  unfold grL
  have h1 := (mm_app (L.take a ++ List.replicate m none) (L.drop a) false).1
  have h2 := (mm_app (L.take a) (List.replicate m none) false).1
  have h3 := mm_rep m false
  have h4 := (mm_app (L.take a) (L.drop a) false).2
  rw [List.take_append_drop] at h4
  omega
theorem moms_nn {ps : List Pc} (ok : ∀ p ∈ ps, Pok p) {m : Int} (h : some m ∈ dens ps) : 0 ≤ m := by
  unfold dens at h
  obtain ⟨p, hp, hm⟩ := List.mem_flatMap.mp h
  have o := ok p hp
  cases p with
  | no n =>
    unfold den at hm
    have := List.eq_of_mem_replicate hm
    cases this
  | pl s l t =>
    obtain ⟨i, hi, rfl⟩ := mem_den_pl hm
    obtain ⟨h1, h2, h3⟩ := o
    have := Int.mul_nonneg (show 0 ≤ t by omega) (show 0 ≤ (i : Int) by omega)
    omega
def GrOf (at' m : Nat) (l l' : Ln) : Prop := l'.nm = l.nm ∧ l'.ss = l.ss ∧ (∀ p ∈ l'.ps, Pok p) ∧ l'.ps.length ≤ 1000 ∧ dens l'.ps = grL (dens l.ps) at' m
def spGreat : Sp := fun vs H Q _ => ∃ (fl a : Addr) (ls : List Ln) (n : Nat), vs = [.ref fl, .ref a] ∧ FeedAt H fl ∧ LanesAt H a ls ∧ LsOk ls n ∧ n ≤ 20 ∧ a ≠ fl ∧
  ∀ H' b ls' (m : Nat), SameX fl H H' → FeedAt H' fl → LanesAt H' b ls' → LsOk ls' (n + m) → m ≤ 100000007 → ls'.map Ln.nm = ls.map Ln.nm → ls'.map Ln.ss = ls.map Ln.ss → (∀ l ∈ ls', mm false (dens l.ps) ≤ 22) → b ≠ fl → Q (.ref b) H'
theorem gr_maps {at' m : Nat} {ls ls' : List Ln} (h : Paired (GrOf at' m) ls ls') : ls'.map Ln.nm = ls.map Ln.nm ∧ ls'.map Ln.ss = ls.map Ln.ss := by
  induction h with
  | nil => exact ⟨rfl, rfl⟩
  | cons h _ ih =>
    obtain ⟨h1, h2, _⟩ := h
    rw [List.map_cons, List.map_cons, List.map_cons, List.map_cons, ih.1, ih.2, h1, h2]
    exact ⟨rfl, rfl⟩
theorem gr_ok {at' m n : Nat} {ls ls' : List Ln} (h : Paired (GrOf at' m) ls ls') (ok : LsOk ls n) (hn : n ≤ 20) (ha : at' ≤ n) (hm : m ≤ 100000007) : LsOk ls' (n + m) ∧ ∀ l ∈ ls', mm false (dens l.ps) ≤ 22 := by
  have hl := Paired.length h
  have all : ∀ l' ∈ ls', ∃ l ∈ ls, GrOf at' m l l' := fun l' hl' => paired_memR h hl'
  have mmB : ∀ l ∈ ls', mm false (dens l.ps) ≤ 22 := fun l' hl' => by
    obtain ⟨l, h1, _, _, _, _, h2⟩ := all l' hl'
    rw [h2]
    have := mm_gr (dens l.ps) at' m
    have h3 := mm_len (dens l.ps) false
    have h4 := (ok.all l h1).len
    omega
  refine ⟨⟨fun l' hl' => ?_, by have := ok.one; omega, by have := ok.four; omega, by rw [(gr_maps h).1]; exact ok.nd⟩, mmB⟩
  obtain ⟨l, h1, g1, g2, g3, g4, g5⟩ := all l' hl'
  have o := ok.all l h1
  have hb := mmB l' hl'
  refine ⟨by rw [g1]; exact o.nm, by rw [g2]; exact o.ss, g3, by omega, by rw [g5, gr_len (by rw [o.len]; exact ha), o.len], by have : MAXL = 1000000000 := rfl; omega, fun k hk => ?_, by omega⟩
  rw [g5] at hk
  rw [g2]
  exact o.inn k (gr_mem hk)
section
variable {P : Program} {w : World} {K : PySem.W.Frag} {mg : Str → Option Value} {base : Heap}
theorem sc__law_great : FnScope ["_law_feed_here", "_law_lanes_here", "_law_length", "_law_at", "_law_many", "_law_found", "_law_name", "_law_samples_here", "_law_pieces_here", "_law_row"] ["_law_feed_here", "_law_lanes_here"] (defScope (top 50)) := ⟨rfl, rfl, rfl, by decide +kernel, rfl, by decide +kernel, by decide +kernel⟩
theorem ok_law_great (T : Tx K mg) (D : Has K (dN "_law_great" 50)) (g : mg "_law_great" = some (.ref (He.fAd K ("_law_great", none)))) (G_take : OkG P w K mg base 1 "_law_take" ["_law_feed_here", "_law_size"] spTake)
    (G_pick : OkG P w K mg base 2 "_law_pick" ["_law_feed_here", "_law_choices"] (spPick K)) (G_moments : OkG P w K mg base 1 "_law_moments" ["_law_pieces_here"] spMom) (G_told : OkG P w K mg base 1 "_law_told" ["_law_row"] spTold) :
    OkG P w K mg base 3 "_law_great" ["_law_feed_here", "_law_lanes_here"] spGreat := by
  refine okG D g sc__law_great (fun _ _ _ _ _ _ us hl => match us, hl with | [_, _], _ => rfl) (fun vs H Q E h => ?_) (fun f cdv A outer s H vs Q E hr h => ?_)
  · obtain ⟨fl, a, ls, n, rfl, _⟩ := h
    rfl
  · obtain ⟨fl, a, ls, n, rfl, hf, ⟨rs, eL, hR⟩, ok, hn, nal, q⟩ := h
    refine ⟨_, PSs.nox (pss_cons (ps_set (i := 2) sc__law_great.nd rfl (Or.inl rfl) (pe_callB call_len (by rfl) T.len PySem.boot_len (pa_cons (pe_cG G_moments (hr.mono (by decide)) rfl passL (pa_cons (pe_ix ix_tup (pe_ix ix_list (pv 1) pe_int (fun _ _ => rfl)) pe_int (fun _ _ => rfl)) pa_nil)) pa_nil)))
      (pss_cons (ps_par (i := 3) (j := 4) rfl sc__law_great.nd rfl rfl (by decide) rfl rfl (pa_cons (pe_cG G_take (hr.mono (by decide)) rfl passL (pa_cons (pv 0) (pa_cons (pe_op op_add (pv 2) pe_int) pa_nil))) (pa_cons (pe_cG G_pick hr rfl passL (pa_cons (pv 0) (pa_cons (pe_lst (pa_cons pe_int (pa_cons pe_int (pa_cons (pe_op op_pow pe_int pe_int) (pa_cons (pe_op op_add (pe_op op_pow pe_int pe_int) pe_int) pa_nil))))) pa_nil))) pa_nil)) (by rfl))
      (pss_cons (ps_set (i := 5) sc__law_great.nd rfl (Or.inl rfl) (pe_lst pa_nil))
      (pss_cons (ps_for PassesOwn.never rfl (pi_list (pv 1)) (pg_tup rfl (pgs_cons (pg_name (i := 6) sc__law_great.nd rfl (Or.inl rfl)) (pgs_cons (pg_name (i := 7) sc__law_great.nd rfl (Or.inl rfl)) (pgs_cons (pg_name (i := 8) sc__law_great.nd rfl (Or.inl rfl)) pgs_nil))))
        (pss_cons (ps_set (i := 9) sc__law_great.nd rfl (Or.inl rfl) (pe_cG G_moments (hr.mono (by decide)) rfl passL (pa_cons (pv 8) pa_nil)))
          (pss_one (ps_expr (pe_bm PySem.F.plainAttrs_list PySem.F.slot_list_append PySem.F.type_list_append mt_append (pv 5) (pa_cons (pe_tup (pa_cons (pv 6) (pa_cons (pv 7) (pa_cons (pe_op op_cat (pe_op op_cat (pe_callTy call_list_of (by rfl) T.list (by decide +kernel) (pa_cons (pe_cG G_told (hr.mono (by decide)) rfl passL (pa_cons (pe_slice sl_list (pv 9) po_none (po_some (pv 3))) pa_nil)) pa_nil)) (pe_lst (pa_cons (pe_tup (pa_cons pe_str (pa_cons (pv 4) pa_nil))) pa_nil))) (pe_callTy call_list_of (by rfl) T.list (by decide +kernel) (pa_cons (pe_cG G_told (hr.mono (by decide)) rfl passL (pa_cons (pe_slice sl_list (pv 9) (po_some (pv 3)) po_none) pa_nil)) pa_nil))) pa_nil)))) pa_nil))))))
      (pss_one (ps_ret (pv 5))))))), ?_⟩
    have fne : ∀ {H1 : Hp} {c : Addr}, FeedAt H1 fl → H1 c = none → c ≠ fl := fun hF hc z => by
      obtain ⟨_, _, _, _, e⟩ := hF
      rw [← z, hc] at e
      cases e
    have lz : ∀ k : Nat, k ≤ 100000 → k ≤ sizeLine := fun k hk => by rw [sizeLine_eq]; omega
    obtain ⟨l0, hl0⟩ : ∃ l, ls[0]? = some l := ⟨_, List.getElem?_eq_getElem (by have := ok.one; omega)⟩
    have hrl : rs.length = ls.length := Paired.length hR
    have h4 := ok.four
    have h1 := ok.one
    obtain ⟨r0, hr0⟩ : ∃ r, rs[0]? = some r := ⟨_, List.getElem?_eq_getElem (by omega)⟩
    obtain ⟨l0', hl0', sa0, pa0, t0, t1, t2⟩ := paired_get hR hr0
    obtain rfl : l0 = l0' := Option.some.inj (hl0.symm.trans hl0')
    have o0 := ok.all l0 (List.mem_of_getElem? hl0)
    -- length
    refine ⟨_, rfl, a, _, _, _, rfl, rfl, SqL.of eL, at0 (by simp [hr0]), r0, _, _, _, rfl, rfl, SqT.of t0, at2 rfl, pa0, l0.ps, rfl, t2, o0.ps, by rw [o0.len]; omega, fun H1 b s1 hb eb => ?_⟩
    refine ⟨_, n, rfl, .inl ⟨_, SqL.of eb, by rw [List.length_map, o0.len]⟩, ?_⟩
    have f1 := hf.keep s1
    -- at, many
    refine ⟨_, rfl, _, rfl, _, _, rfl, rfl, fl, _, rfl, by omega, by omega, f1, fun H2 v2 s2 f2 a2 b2 => ?_⟩
    obtain ⟨at', rfl⟩ := Int.eq_ofNat_of_zero_le a2
    refine ⟨_, rfl, _, _, rfl, rfl, ⟨by decide, by decide, by decide⟩, _, _, rfl, rfl, ⟨by decide, by decide, by decide⟩, _, _, rfl, rfl, lz 4 (by decide), fun c hc => ?_⟩
    have nc := fne f2 hc
    refine ⟨fl, c, _, rfl, f2.keep (Same.new hc), upd_same, nc, (by show 1 ≤ 4; decide), (by show 4 ≤ 1000; decide), fun H3 my s3 f3 hmy => ⟨_, _, rfl, ?_⟩⟩
    have k3 : SameX fl H H3 := (((SameX.of s1).trans s2).trans (.of (Same.new hc))).trans s3
    obtain ⟨m, rfl, m1, m2⟩ : ∃ m : Nat, my = .int m ∧ 1 ≤ m ∧ m ≤ 100000007 := by
      simp only [List.mem_cons, List.not_mem_nil, or_false] at hmy
      rcases hmy with rfl | rfl | rfl | rfl
      · exact ⟨1, rfl, by decide, by decide⟩
      · exact ⟨5, rfl, by decide, by decide⟩
      · exact ⟨100000000, rfl, by decide, by decide⟩
      · exact ⟨100000007, rfl, by decide, by decide⟩
    -- found
    refine ⟨Nat.zero_le _, fun fo hfo => ?_⟩
    have nfo := fne f3 hfo
    have hfoH : H fo = none := by
      cases e : H fo with
      | none => rfl
      | some o => rw [k3 _ _ e nfo] at hfo; cases hfo
    have k4 : SameX fl H (upd H3 fo (.lst [])) := k3.trans (.of (Same.new hfo))
    have f4 := f3.keep (Same.new (o := .lst []) hfo)
    refine ⟨_, rfl, a, rfl, ⟨_, SqL.of (k4 _ _ eL nal)⟩, for_it (walk_list (K := K) (xs := rs.map V.ref)) (fun i σ H1 => ∃ (rs' : List Addr) (ls' : List Ln) (v6 v7 v8 v9 : Option V), σ = [some (.ref fl), some (.ref a), some (.int n), some (.int at'), some (.int m), some (.ref fo), v6, v7, v8, v9] ∧ SameX fl H H1 ∧ FeedAt H1 fl ∧
        H1 fo = some (.lst (rs'.map V.ref)) ∧ Paired (LaneX fo H1) rs' ls' ∧ Paired (GrOf at' m) (ls.take i) ls')
      ⟨[], [], none, none, none, none, rfl, k4, f4, upd_same, .nil, .nil⟩ (fun i σ H1 _ ⟨_, _, _, _, _, _, _, kx, _⟩ => SqL.of (kx _ _ eL nal)) ?_ ?_⟩
    · rintro i y σ Hz H5 hi ⟨rs', ls', v6, v7, v8, v9, rfl, kx, ff, eo, hP, hG⟩ ⟨rfl, ey⟩
      obtain ⟨r, g1, rfl⟩ := map_get ey
      obtain ⟨l, g2, g3⟩ := paired_get hR g1
      have hlm := List.mem_of_getElem? g2
      have o := ok.all l hlm
      have g3' := g3.keep (kx.f hf)
      obtain ⟨sa0', pa0', u0, ⟨rq, u1, u1'⟩, ⟨rp, u2, u2'⟩⟩ := id g3
      obtain ⟨sa, pa, w0, w1, w2⟩ := g3'
      have rk := kx.f hf
      have eqq : sa = sa0' ∧ pa = pa0' := by
        have := rk.tup u0
        rw [w0] at this
        have := Option.some.inj this
        injection this with this
        injection this with _ this
        injection this with h1 this
        injection this with h2 _
        injection h1 with h1
        injection h2 with h2
        exact ⟨h1, h2⟩
      obtain ⟨rfl, rfl⟩ := eqq
      have nsf : sa ≠ fo := ne_of_none u1 hfoH
      have hlen := Paired.length hP
      have hlen2 := Paired.length hG
      have hil : (ls.take i).length ≤ 4 := by rw [List.length_take]; omega
      refine ⟨r, _, rfl, SqT.of w0, rfl, _, _, rfl, _, _, rfl, _, _, rfl, rfl, ?_⟩
      -- row
      refine ⟨_, rfl, pa, l.ps, rfl, w2, o.ps, by rw [o.len]; omega, fun H6 b6 s6 hb6 eb6 => ?_⟩
      have eo6 := s6 _ _ eo
      refine ⟨_, rfl, .inl ⟨rfl, _, SqL.of eo6⟩, _, rfl, _, rfl, _, rfl, _, rfl, at', rfl, b6, _, rfl, SqL.of eb6, fun c1 hc1 => ?_⟩
      have s7 := Same.new (o := .lst (cutV ((dens l.ps).map moV) none (some (at' : Int)))) hc1
      refine ⟨c1, (dens l.ps).take at', rfl, by rw [upd_same, cut_to, List.map_take], by rw [List.length_take, o.len]; omega, fun k hk => moms_nn o.ps (List.mem_of_mem_take hk), fun H8 tt1 ps1 s8 hT1 hok1 hd1 => ?_⟩
      obtain ⟨r1, e1, p1⟩ := hT1
      have n1 := p1.len
      have q1 := len_dens hok1
      rw [hd1, List.length_take, o.len] at q1
      refine ⟨tt1, _, rfl, .inr (SqT.of e1), fun l1 hl1 => ?_⟩
      have s9 := Same.new (o := .lst (r1.map V.ref)) hl1
      refine ⟨_, rfl, lz 2 (by decide), fun tu htu => ⟨lz 1 (by decide), fun l2 hl2 => ?_⟩⟩
      have s10 := Same.new (o := .tup [.str "nothing", .int (m : Int)]) htu
      have s11 := Same.new (o := .lst [.ref tu]) hl2
      refine ⟨l1, l2, _, _, rfl, rfl, s11 _ _ (s10 _ _ upd_same), upd_same, by rw [List.length_map]; exact lz _ (by simp; omega), fun l3 hl3 => ?_⟩
      have s12 := Same.new (o := .lst (r1.map V.ref ++ [.ref tu])) hl3
      have s812 := ((s9.trans s10).trans s11).trans s12
      have s612 := (s7.trans s8).trans s812
      generalize eH : upd (upd (upd (upd H8 l1 (.lst (r1.map V.ref))) tu (.tup [.str "nothing", .int (m : Int)])) l2 (.lst [.ref tu])) l3 (.lst (r1.map V.ref ++ [.ref tu])) = Ha at s812 s612 ⊢
      have e3 : Ha l3 = some (.lst (r1.map V.ref ++ [.ref tu])) := by rw [← eH]; exact upd_same
      have etu : Ha tu = some (.tup [.str "nothing", .int (m : Int)]) := by rw [← eH]; exact s12 _ _ (s11 _ _ upd_same)
      refine ⟨_, rfl, _, rfl, at', rfl, b6, _, rfl, SqL.of (s612 _ _ eb6), fun c2 hc2 => ?_⟩
      have s13 := Same.new (o := .lst (cutV ((dens l.ps).map moV) (some (at' : Int)) none)) hc2
      refine ⟨c2, (dens l.ps).drop at', rfl, by rw [upd_same, cut_from _ _ (by rw [List.length_map, o.len]; omega), List.map_drop], by rw [List.length_drop, o.len]; omega, fun k hk => moms_nn o.ps (List.mem_of_mem_drop hk), fun Hb tt2 ps2 s14 hT2 hok2 hd2 => ?_⟩
      obtain ⟨r2, e2, p2⟩ := hT2
      have n2 := p2.len
      have q2 := len_dens hok2
      rw [hd2, List.length_drop, o.len] at q2
      refine ⟨tt2, _, rfl, .inr (SqT.of e2), fun l4 hl4 => ?_⟩
      have s15 := Same.new (o := .lst (r2.map V.ref)) hl4
      have sab := (s13.trans s14).trans s15
      refine ⟨l3, l4, _, _, rfl, rfl, sab _ _ e3, upd_same, by simp only [List.length_append, List.length_map, List.length_cons, List.length_nil]; exact lz _ (by omega), fun l5 hl5 => ?_⟩
      have s16 := Same.new (o := .lst (r1.map V.ref ++ [.ref tu] ++ r2.map V.ref)) hl5
      refine ⟨lz 3 (by decide), fun tv htv => ?_⟩
      have s17 := Same.new (o := .tup [.str l.nm, .ref sa, .ref l5]) htv
      have s6v := (((s6.trans s612).trans sab).trans s16).trans s17
      have eov := s6v _ _ eo
      refine ⟨fo, _, _, rfl, rfl, eov, small_size (by rw [List.length_map]; omega), ?_⟩
      have n5f : l5 ≠ fo := Ne.symm (ne_of_none (((s6.trans s612).trans sab) _ _ eo) hl5)
      have ntvf : tv ≠ fo := Ne.symm (ne_of_none ((((s6.trans s612).trans sab).trans s16) _ _ eo) htv)
      have e5 := s17 _ _ (show (upd (upd Hb l4 (.lst (r2.map V.ref))) l5 (.lst (r1.map V.ref ++ [.ref tu] ++ r2.map V.ref))) l5 = some (.lst (r1.map V.ref ++ [.ref tu] ++ r2.map V.ref)) from upd_same)
      have etv : (upd (upd (upd Hb l4 (.lst (r2.map V.ref))) l5 (.lst (r1.map V.ref ++ [.ref tu] ++ r2.map V.ref))) tv (.tup [.str l.nm, .ref sa, .ref l5])) tv = some (.tup [.str l.nm, .ref sa, .ref l5]) := upd_same
      have p1v : Tp pcV (upd (upd (upd Hb l4 (.lst (r2.map V.ref))) l5 (.lst (r1.map V.ref ++ [.ref tu] ++ r2.map V.ref))) tv (.tup [.str l.nm, .ref sa, .ref l5])) (r1 ++ [tu] ++ r2) (ps1 ++ [.no (m : Int)] ++ ps2) :=
        paired_append (paired_append (Tp.keep (f := pcV) p1 (.of (((s812.trans sab).trans s16).trans s17))) (.cons (s17 _ _ (s16 _ _ (sab _ _ etu))) .nil)) (Tp.keep (f := pcV) p2 (.of ((s15.trans s16).trans s17)))
      generalize upd (upd (upd Hb l4 (.lst (r2.map V.ref))) l5 (.lst (r1.map V.ref ++ [.ref tu] ++ r2.map V.ref))) tv (.tup [.str l.nm, .ref sa, .ref l5]) = Hv at s6v eov e5 etv p1v ⊢
      have kL : SameL fl fo H5 (upd Hv fo (.lst (rs'.map V.ref ++ [.ref tv]))) := fun b o eb _ nb => by
        rw [upd_ne nb]
        exact s6v _ _ eb
      have cL : ∀ b o, Hv b = some o → b ≠ fo → (upd Hv fo (.lst (rs'.map V.ref ++ [.ref tv]))) b = some o := fun b o eb nb => by
        rw [upd_ne nb]
        exact eb
      have nto : ∀ {b : Addr} {ys : List V}, Hv b = some (.tup ys) → b ≠ fo := fun {b ys} e z => by
        rw [z, eov] at e
        cases e
      refine ⟨rs' ++ [tv], ls' ++ [⟨l.nm, l.ss, ps1 ++ [.no (m : Int)] ++ ps2⟩], _, _, _, _, rfl, ?_, ?_, ?_, ?_, ?_⟩
      · exact fun b o eb n1 => kL _ _ (kx _ _ eb n1) n1 (ne_of_none eb hfoH)
      · obtain ⟨d, s', d0, s0, e⟩ := ff
        exact ⟨d, s', d0, s0, cL _ _ (s6v _ _ e) (Ne.symm nfo)⟩
      · rw [upd_same, List.map_append]
        rfl
      · obtain ⟨rq2, z1, z2⟩ := w1
        refine paired_append (Paired.mapP hP fun _ _ z => z.keep ff eo kL) (.cons ⟨sa, l5, nsf, n5f, cL _ _ etv ntvf, ⟨rq2, cL _ _ (s6v _ _ z1) nsf, Paired.mapP z2 fun _ _ z => cL _ _ (s6v _ _ z) (nto (s6v _ _ z))⟩, ⟨r1 ++ [tu] ++ r2, ?_, Paired.mapP p1v fun _ _ z => cL _ _ z (nto z)⟩⟩ .nil)
        refine cL _ _ ?_ n5f
        rw [e5, List.map_append, List.map_append]
        rfl
      · rw [take_more g2]
        refine paired_append hG (.cons ⟨rfl, rfl, fun p hp => ?_, by simp only [List.length_append, List.length_cons, List.length_nil]; omega, ?_⟩ .nil)
        · rcases List.mem_append.mp hp with hp | hp
          · rcases List.mem_append.mp hp with hp | hp
            · exact hok1 p hp
            · rw [List.mem_singleton.mp hp]
              show 1 ≤ (m : Int)
              omega
          · exact hok2 p hp
        · show dens (ps1 ++ [.no (m : Int)] ++ ps2) = grL (dens l.ps) at' m
          rw [dens_app, dens_app, dens_one, hd1, hd2]
          rfl
    · rintro σ H5 ⟨rs', ls', v6, v7, v8, v9, rfl, kx, ff, eo, hP, hG⟩
      rw [List.length_map, List.take_of_length_le (by omega)] at hG
      obtain ⟨g1, g2⟩ := gr_ok hG ok hn (by omega) m2
      obtain ⟨g3, g4⟩ := gr_maps hG
      exact ⟨_, rfl, q H5 fo ls' m kx ff ⟨rs', eo, Paired.mapP hP fun _ _ z => z.lane⟩ g1 m2 g3 g4 g2 nfo⟩
end
end K24

/-! part LH -/
set_option Elab.async false
set_option linter.all false
set_option maxRecDepth 100000
set_option maxHeartbeats 4000000
namespace K24
open PySem PySem.Spec PyProof.Rows L2
def spSpots : Sp := fun vs H Q _ => ∃ (fl : Addr) (n : Nat), vs = [.ref fl, .int n] ∧ n ≤ 1000000000 ∧ FeedAt H fl ∧
  ∀ H' p (a b c d : Nat), SameX fl H H' → FeedAt H' fl → H' p = some (.lst [.int a, .int b, .int c, .int d]) → a ≤ b → b ≤ c → c ≤ d → d ≤ n → Q (.ref p) H'
theorem four_of {ns : List Int} {n : Nat} (hl : ns.length = 4) (hb : ∀ v ∈ ns, 0 ≤ v ∧ v ≤ n) (hp : ns.Pairwise (· ≤ ·)) : ∃ a b c d : Nat, ns.map V.int = [.int a, .int b, .int c, .int d] ∧ a ≤ b ∧ b ≤ c ∧ c ≤ d ∧ d ≤ n := by
  match ns, hl with
  | [a, b, c, d], _ =>
    obtain ⟨ha, ha'⟩ := hb a (by simp)
    obtain ⟨hb1, hb'⟩ := hb b (by simp)
    obtain ⟨hc, hc'⟩ := hb c (by simp)
    obtain ⟨hd, hd'⟩ := hb d (by simp)
    obtain ⟨a, rfl⟩ := Int.eq_ofNat_of_zero_le ha
    obtain ⟨b, rfl⟩ := Int.eq_ofNat_of_zero_le hb1
    obtain ⟨c, rfl⟩ := Int.eq_ofNat_of_zero_le hc
    obtain ⟨d, rfl⟩ := Int.eq_ofNat_of_zero_le hd
    simp only [List.pairwise_cons, List.mem_cons, List.not_mem_nil, or_false, forall_eq_or_imp, forall_eq] at hp
    exact ⟨a, b, c, d, rfl, by omega, by omega, by omega, by omega⟩
/-! ### few pieces -/
theorem mm_cut (L : Mo) {a b : Nat} (h : a ≤ b) : mm false (cutL L a b) ≤ mm false L + 1 := by
  unfold cutL
  have h1 := (mm_app (L.take a) (L.drop b) false).1
  have h2 := (mm_app (L.take a) (L.drop a) false).2
  rw [List.take_append_drop] at h2
  have h3 : L.drop b = (L.drop a).drop (b - a) := by rw [List.drop_drop]; congr 1; omega
  have h4 := mm_drop (b - a) (L.drop a) false
  rw [← h3] at h4
  omega
theorem mm_fas (L : Mo) {a b f : Nat} (h : a ≤ b) (hb : b ≤ L.length) (hf : 1 ≤ f) : mm false (fasL L a b f) ≤ mm false L + 2 := by
  unfold fasL
  have h1 := (mm_app (L.take a ++ smp L a b f) (L.drop b) false).1
  have h2 := (mm_app (L.take a) (smp L a b f) false).1
  have h3 := mm_smp hf h hb
  have h4 := (mm_app (L.take b) (L.drop b) false).2
  rw [List.take_append_drop] at h4
  have h5 := (mm_app ((L.take b).take a) ((L.take b).drop a) false).2
  rw [List.take_append_drop, List.take_take, Nat.min_eq_left h] at h5
  omega
theorem cut_len {L : Mo} {a b : Nat} (h : a ≤ b) (hb : b ≤ L.length) : (cutL L a b).length = L.length - (b - a) := by
  unfold cutL
  rw [List.length_append, List.length_drop, List.length_take]
  omega
theorem cut_mem {L : Mo} {a b : Nat} {x : Option Int} (h : x ∈ cutL L a b) : x ∈ L := by
  unfold cutL at h
  rcases List.mem_append.mp h with h | h
  · exact List.mem_of_mem_take h
  · exact List.mem_of_mem_drop h
theorem smp_mem {L : Mo} {a b f : Nat} {m : Int} (h : some m ∈ smp L a b f) : some m ∈ L := by
  unfold smp at h
  obtain ⟨j, hj, e⟩ := List.mem_map.mp h
  by_cases hk : a + j * f < L.length
  · rw [List.getD_eq_getElem?_getD, List.getElem?_eq_getElem hk] at e
    simp at e
    rw [← e]
    exact List.getElem_mem hk
  · rw [List.getD_eq_getElem?_getD, List.getElem?_eq_none (by omega)] at e
    cases e
theorem fas_mem {L : Mo} {a b f : Nat} {m : Int} (h : some m ∈ fasL L a b f) : some m ∈ L := by
  unfold fasL at h
  rcases List.mem_append.mp h with h | h
  · rcases List.mem_append.mp h with h | h
    · exact List.mem_of_mem_take h
    · exact smp_mem h
  · exact List.mem_of_mem_drop h
theorem fas_len {L : Mo} {a b f : Nat} (h : a ≤ b) (hb : b ≤ L.length) : (fasL L a b f).length = L.length - (b - a) + cdiv (b - a) f := by
  unfold fasL
  rw [List.length_append, List.length_append, smp_len, List.length_drop, List.length_take, Nat.min_eq_left hb]
  omega
theorem cdiv_le_self {x f : Nat} (hf : 1 ≤ f) : cdiv x f ≤ x := by
  rw [cdiv_le hf]
  have : x * 1 ≤ x * f := Nat.mul_le_mul_left _ hf
  omega
theorem fine_cut {fs : List Fl} {n a b k : Nat} (ok : FsOk fs n) (hab : a ≤ b) (hb : b ≤ n) (hm : ∀ f ∈ fs, mm false f.L + 1 ≤ k) (hn : (n : Int) ≤ MAXL) : Fine fs (fun L => cutL L a b) (n - (b - a)) k :=
  ⟨by omega, fun f hf => ⟨by show (cutL f.L a b).length = _; rw [cut_len hab (by rw [(ok.all f hf).len]; exact hb), (ok.all f hf).len], fun m h => cut_mem h, Nat.le_trans (mm_cut f.L hab) (hm f hf)⟩⟩
theorem fine_fas {fs : List Fl} {n a b c k : Nat} (ok : FsOk fs n) (hab : a ≤ b) (hb : b ≤ n) (hc : 1 ≤ c) (hm : ∀ f ∈ fs, mm false f.L + 2 ≤ k) (hn : (n : Int) ≤ MAXL) : Fine fs (fun L => fasL L a b c) (n - (b - a) + cdiv (b - a) c) k :=
  ⟨by have := cdiv_le_self (x := b - a) hc; omega, fun f hf => ⟨by show (fasL f.L a b c).length = _; rw [fas_len hab (by rw [(ok.all f hf).len]; exact hb), (ok.all f hf).len], fun m h => fas_mem h, Nat.le_trans (mm_fas f.L hab (by rw [(ok.all f hf).len]; exact hb) hc) (hm f hf)⟩⟩
theorem up_congr {fs : List Fl} {G G' : Mo → Mo} (h : ∀ f ∈ fs, G f.L = G' f.L) : fs.map (Fl.up G) = fs.map (Fl.up G') := by
  refine List.map_congr_left fun f hf => ?_
  unfold Fl.up
  rw [h f hf]
theorem up_up {fs : List Fl} {G G' : Mo → Mo} : (fs.map (Fl.up G)).map (Fl.up G') = fs.map (Fl.up fun L => G' (G L)) := by
  rw [List.map_map]
  rfl
theorem up_id {fs : List Fl} : fs.map (Fl.up fun L => L) = fs := by
  have : (Fl.up fun L => L) = id := rfl
  rw [this, List.map_id]
def MmLe (fs : List Fl) (k : Nat) : Prop := ∀ f ∈ fs, mm false f.L ≤ k
theorem Fine.mm {fs : List Fl} {G : Mo → Mo} {n k : Nat} (h : Fine fs G n k) : MmLe (fs.map (Fl.up G)) k := fun f' hf' => by
  obtain ⟨f, hf, rfl⟩ := List.mem_map.mp hf'
  exact (h.2 f hf).2.2
theorem MmLe.mono {fs : List Fl} {k k' : Nat} (h : MmLe fs k) (hk : k ≤ k') : MmLe fs k' := fun f hf => Nat.le_trans (h f hf) hk
def spStr (CE CF : Addr) : Sp := fun vs H Q _ => ∃ (x : Addr) (fs : List Fl) (n b c : Nat), vs = [.ref x, .int b, .int c] ∧ FilmAt CE CF H x fs n ∧ FsOk fs n ∧ b ≤ c ∧ c ≤ n ∧ MmLe fs 50 ∧
  ∀ H' y, Same H H' → FilmAt CE CF H' y (fs.map (Fl.up fun L => midL L b c)) (c - b) → Q (.ref y) H'
theorem FsOk.big {fs : List Fl} {n : Nat} (ok : FsOk fs n) : (n : Int) ≤ MAXL := by
  obtain ⟨f0, hf0⟩ : ∃ f, f ∈ fs := by
    have := ok.one
    cases fs with
    | nil => simp at this
    | cons f r => exact ⟨f, List.mem_cons_self⟩
  exact (ok.all f0 hf0).big
theorem str_eq {L : Mo} {n b c : Nat} (hl : L.length = n) (hb : b ≤ c) (hc : c ≤ n) : cutL (cutL L c n) 0 b = midL L b c := by
  unfold cutL midL
  rw [List.drop_eq_nil_of_le (by omega), List.append_nil, List.take_zero, List.nil_append]
theorem fmF_cut {tn dk de : Addr} {n : Int} : (fmF tn dk de n).lookup ("cut" : Str) = none := fmF_no (by decide +kernel) (by decide +kernel) (by decide +kernel) (by decide +kernel)
theorem fmF_fas {tn dk de : Addr} {n : Int} : (fmF tn dk de n).lookup ("faster" : Str) = none := fmF_no (by decide +kernel) (by decide +kernel) (by decide +kernel) (by decide +kernel)
theorem fmF_rep {tn dk de : Addr} {n : Int} : (fmF tn dk de n).lookup ("repeat" : Str) = none := fmF_no (by decide +kernel) (by decide +kernel) (by decide +kernel) (by decide +kernel)
theorem fmF_put {tn dk de : Addr} {n : Int} : (fmF tn dk de n).lookup ("put_in" : Str) = none := fmF_no (by decide +kernel) (by decide +kernel) (by decide +kernel) (by decide +kernel)
/-- the instance at a film -/
theorem FilmAt.ins {CE CF : Addr} {H : Hp} {x : Addr} {fs : List Fl} {n : Nat} (h : FilmAt CE CF H x fs n) : ∃ dx tn dk de, H x = some (.ins CF dx (fmF tn dk de n)) := by
  obtain ⟨dx, tn, dk, de, rs, es, p⟩ := h
  exact ⟨dx, tn, dk, de, p.x⟩
section
variable {P : Program} {w : World} {K : PySem.W.Frag} {mg : Str → Option Value} {base : Heap} {CE CF : Addr}
theorem sc__law_stretch : FnScope ["_law_film", "_law_first", "_law_last"] ["_law_film", "_law_first", "_law_last"] (defScope (top 52)) := ⟨rfl, rfl, rfl, by decide +kernel, rfl, by decide +kernel, by decide +kernel⟩
theorem ok_law_stretch (TF : ClF K CF) (D : Has K (dN "_law_stretch" 52)) (g : mg "_law_stretch" = some (.ref (He.fAd K ("_law_stretch", none)))) (G_cut : OkM P w K mg base 12 CF "cut" ["self", "first", "last"] (spFmCut CE CF)) :
    OkG P w K mg base 13 "_law_stretch" ["_law_film", "_law_first", "_law_last"] (spStr CE CF) := by
  refine okG D g sc__law_stretch (fun _ _ _ _ _ _ us hl => match us, hl with | [_, _, _], _ => rfl) (fun vs H Q E h => ?_) (fun f cdv A outer s H vs Q E hr h => ?_)
  · obtain ⟨x, fs, n, b, c, rfl, _⟩ := h
    rfl
  · obtain ⟨x, fs, n, b, c, rfl, hx, ok, hbc, hcn, hm, q⟩ := h
    refine ⟨_, PSs.nox (pss_one (ps_ret (pe_mG (pe_mG (pv 0) G_cut hr passL (pa_cons (pv 2) (pa_cons (pe_fld (pv 0) rfl) pa_nil))) G_cut hr passL (pa_cons pe_int (pa_cons (pv 1) pa_nil))))), ?_⟩
    obtain ⟨dx, tn, dk, de, ex⟩ := hx.ins
    have f1 := fine_cut (k := 60) ok hcn (Nat.le_refl n) (fun f hf => by have := hm f hf; omega) ok.big
    have f1' := fine_cut (k := 51) ok hcn (Nat.le_refl n) (fun f hf => by have := hm f hf; omega) ok.big
    have ok1 := f1.ok ok (by omega)
    have e1 : n - (n - c) = c := by omega
    rw [e1] at f1 f1' ok1
    have f2 := fine_cut (a := 0) (k := 60) ok1 (Nat.zero_le b) hbc (fun f hf => by have := f1'.mm f hf; omega) ok1.big
    refine ⟨_, rfl, x, dx, _, rfl, ex, fmF_cut, _, rfl, _, rfl, x, CF, dx, _, _, rfl, ex, TF.cl, TF.nL, fmF_l, x, fs, n, c, n, c, rfl, hx, ok, hcn, Nat.le_refl _, fun f hf => by have := hm f hf; omega, f1, fun H1 y s1 hy => ?_⟩
    obtain ⟨dy, tn', dk', de', ey⟩ := hy.ins
    refine ⟨y, dy, _, rfl, ey, fmF_cut, _, rfl, y, _, c, 0, b, _, rfl, hy, ok1, Nat.zero_le _, hbc, fun f hf => by have := f1'.mm f hf; omega, f2, fun H2 z s2 hz => ?_⟩
    rw [up_up, up_congr (G' := fun L => midL L b c) fun f hf => str_eq (ok.all f hf).len hbc hcn] at hz
    exact q H2 z (s1.trans s2) hz
theorem sc__law_spots : FnScope ["_law_feed_here", "_law_length", "_law_found", "_law_turn", "_law_late"] ["_law_feed_here", "_law_length"] (defScope (top 51)) := ⟨rfl, rfl, rfl, by decide +kernel, rfl, by decide +kernel, by decide +kernel⟩
theorem ok_law_spots (T : Tx K mg) (D : Has K (dN "_law_spots" 51)) (g : mg "_law_spots" = some (.ref (He.fAd K ("_law_spots", none)))) (G_take : OkG P w K mg base 1 "_law_take" ["_law_feed_here", "_law_size"] spTake)
    (G_pick : OkG P w K mg base 2 "_law_pick" ["_law_feed_here", "_law_choices"] (spPick K)) (G_big : OkG P w K mg base 2 "_law_big" ["_law_feed_here", "_law_size"] spBig) :
    OkG P w K mg base 3 "_law_spots" ["_law_feed_here", "_law_length"] spSpots := by
  refine okG D g sc__law_spots (fun _ _ _ _ _ _ us hl => match us, hl with | [_, _], _ => rfl) (fun vs H Q E h => ?_) (fun f cdv A outer s H vs Q E hr h => ?_)
  · obtain ⟨fl, n, rfl, _⟩ := h
    rfl
  · obtain ⟨fl, n, rfl, hn, hf, q⟩ := h
    refine ⟨_, PSs.nox (pss_cons (ps_set (i := 2) sc__law_spots.nd rfl (Or.inl rfl) (pe_lst pa_nil))
      (pss_cons (ps_for PassesOwn.never rfl (pi_range1 rfl T.range (pa_cons pe_int pa_nil)) (pg_name (i := 3) sc__law_spots.nd rfl (Or.inl rfl))
        (pss_cons (ps_set (i := 4) sc__law_spots.nd rfl (Or.inl rfl) (pe_callB (call_max2 rfl) (by rfl) T.max (by decide +kernel) (pa_cons pe_int (pa_cons (pe_op op_sub (pe_op op_sub (pv 1) pe_int) (pe_cG G_take (hr.mono (by decide)) rfl passL (pa_cons (pv 0) (pa_cons pe_int pa_nil)))) pa_nil))))
          (pss_one (ps_expr (pe_bm PySem.F.plainAttrs_list PySem.F.slot_list_append PySem.F.type_list_append mt_append (pv 2) (pa_cons (pe_cG G_pick hr rfl passL (pa_cons (pv 0) (pa_cons (pe_lst (pa_cons (pe_cG G_take (hr.mono (by decide)) rfl passL (pa_cons (pv 0) (pa_cons (pe_op op_add (pv 1) pe_int) pa_nil))) (pa_cons (pe_cG G_big hr rfl passL (pa_cons (pv 0) (pa_cons (pe_op op_add (pv 1) pe_int) pa_nil))) (pa_cons (pv 1) (pa_cons (pv 4) pa_nil))))) pa_nil))) pa_nil))))))
      (pss_one (ps_ret (pe_callB cr_sorted (by rfl) T.sorted (by decide +kernel) (pa_cons (pv 2) pa_nil)))))), ?_⟩
    have fne : ∀ {H1 : Hp} {c : Addr}, FeedAt H1 fl → H1 c = none → c ≠ fl := fun hF hc z => by
      obtain ⟨_, _, _, _, e⟩ := hF
      rw [← z, hc] at e
      cases e
    refine ⟨Nat.zero_le _, fun fo hfo => ?_⟩
    have nfo := fne hf hfo
    have s0 := Same.new (o := .lst []) hfo
    refine ⟨4, rfl, by decide, by decide, for_it walk_range (fun i σ H1 => ∃ (ns : List Int) (v3 v4 : Option V), σ = [some (.ref fl), some (.int n), some (.ref fo), v3, v4] ∧ SameX fl H H1 ∧ FeedAt H1 fl ∧ H1 fo = some (.lst (ns.map V.int)) ∧ ns.length = i ∧ ∀ v ∈ ns, 0 ≤ v ∧ v ≤ n)
      ⟨[], none, none, rfl, .of s0, hf.keep s0, upd_same, rfl, (fun v h => by cases h)⟩ (fun _ _ _ _ _ => True.intro) ?_ ?_⟩
    · rintro i y σ Hz H1 hi ⟨ns, v3, v4, rfl, kx, ff, eo, hl, hb⟩ ⟨rfl, rfl⟩
      have hi : i < 4 := hi
      refine ⟨_, rfl, _, _, rfl, rfl, _, rfl, fl, 20, rfl, by decide, by decide, ff, fun H2 v2 s2 f2 a2 b2 => ⟨_, _, rfl, rfl, _, _, rfl, ?_⟩⟩
      obtain ⟨lt, hlt, l1, l2⟩ : ∃ lt : Int, (if (n : Int) - 1 - v2 > 0 then (n : Int) - 1 - v2 else 0) = lt ∧ 0 ≤ lt ∧ lt ≤ n := by
        refine ⟨_, rfl, ?_, ?_⟩ <;> split <;> omega
      rw [hlt]
      have eo2 := s2 _ _ eo nfo
      refine ⟨_, rfl, .inl ⟨rfl, _, SqL.of eo2⟩, _, rfl, _, rfl, _, rfl, _, _, rfl, rfl, fl, _, rfl, by omega, by omega, f2, fun H3 v5 s3 f3 a3 b3 => ?_⟩
      refine ⟨_, rfl, _, rfl, _, _, rfl, rfl, fl, _, rfl, by omega, f3, fun H4 v6 s4 f4 a4 b4 => ?_⟩
      refine ⟨_, rfl, _, rfl, (by show 4 ≤ sizeLine; rw [sizeLine_eq]; omega), fun c hc => ?_⟩
      have nc := fne f4 hc
      refine ⟨fl, c, _, rfl, f4.keep (Same.new hc), upd_same, nc, (by show 1 ≤ 4; decide), (by show 4 ≤ 1000; decide), fun H5 my s5 f5 hmy => ?_⟩
      obtain ⟨z, rfl, z1, z2⟩ : ∃ z : Int, my = .int z ∧ 0 ≤ z ∧ z ≤ n := by
        simp only [List.mem_cons, List.not_mem_nil, or_false] at hmy
        rcases hmy with rfl | rfl | rfl | rfl
        · exact ⟨_, rfl, by omega, by omega⟩
        · exact ⟨_, rfl, by omega, by omega⟩
        · exact ⟨_, rfl, by omega, by omega⟩
        · exact ⟨_, rfl, l1, l2⟩
      have k5 : SameX fl H1 H5 := (((s2.trans s3).trans s4).trans (.of (Same.new hc))).trans s5
      have eo5 := k5 _ _ eo nfo
      refine ⟨fo, _, _, rfl, rfl, eo5, small_size (by rw [List.length_map]; omega), ns ++ [z], _, _, rfl, ?_, ?_, ?_, by simp [hl], ?_⟩
      · intro b o e n1
        rw [upd_ne (ne_of_none e hfo)]
        exact k5 _ _ (kx _ _ e n1) n1
      · obtain ⟨d, s', d0, s0, e⟩ := f5
        exact ⟨d, s', d0, s0, by rw [upd_ne (Ne.symm nfo)]; exact e⟩
      · rw [upd_same, List.map_append]
        rfl
      · intro v hv
        rcases List.mem_append.mp hv with hv | hv
        · exact hb v hv
        · rw [List.mem_singleton.mp hv]
          exact ⟨z1, z2⟩
    · rintro σ H1 ⟨ns, v3, v4, rfl, kx, ff, eo, hl, hb⟩
      have hl : ns.length = 4 := hl
      refine ⟨_, rfl, fo, ns, rfl, SqL.of eo, by omega, fun ns' p hp hs hpn => ?_⟩
      obtain ⟨a, b, c, d, e, h1, h2, h3, h4⟩ := four_of (n := n) (by rw [hp.length_eq]; exact hl) (fun v hv => hb v (hp.subset hv)) hs
      have s1 := Same.new (o := .lst (ns'.map V.int)) hpn
      exact q _ p a b c d (kx.trans (.of s1)) (ff.keep s1) (by rw [upd_same, e]) h1 h2 h3 h4
end
end K24

/-! part LI -/
set_option Elab.async false
set_option linter.all false
set_option maxRecDepth 100000
set_option maxHeartbeats 4000000
namespace K24
open PySem PySem.Spec PyProof.Rows L2
/-! ### the algebra of edits on rows -/
theorem split3 {L : Mo} {b c : Nat} (hbc : b ≤ c) (hc : c ≤ L.length) : ∃ A B C : Mo, L = A ++ B ++ C ∧ A.length = b ∧ B.length = c - b := by
  refine ⟨L.take b, (L.take c).drop b, L.drop c, ?_, ?_, ?_⟩
  · have h := List.take_append_drop b (L.take c)
    rw [List.take_take, Nat.min_eq_left hbc] at h
    rw [h, List.take_append_drop]
  · rw [List.length_take]; omega
  · rw [List.length_drop, List.length_take]; omega
theorem tk {A B : Mo} {n : Nat} (h : A.length = n) : (A ++ B).take n = A := by rw [← h, List.take_left']; rfl
theorem dk {A B : Mo} {n : Nat} (h : A.length = n) : (A ++ B).drop n = B := by rw [← h, List.drop_left']; rfl
theorem al_put {L : Mo} {b c : Nat} (hbc : b ≤ c) (hc : c ≤ L.length) : putL (cutL L b c) (midL L b c) b = L := by
  obtain ⟨A, B, C, rfl, ha, hb⟩ := split3 hbc hc
  have hab : (A ++ B).length = c := by rw [List.length_append]; omega
  unfold putL cutL midL
  rw [dk (A := A ++ B) hab, tk (A := A ++ B) hab, List.append_assoc A B C, tk ha, dk ha, tk ha, dk ha, List.append_assoc]
theorem al_cut {L : Mo} {b c : Nat} (hbc : b ≤ c) (hc : c ≤ L.length) : cutL (putL L (midL L b c) b) b c = L := by
  obtain ⟨A, B, C, rfl, ha, hb⟩ := split3 hbc hc
  have hab : (A ++ B).length = c := by rw [List.length_append]; omega
  unfold putL cutL midL
  rw [tk (A := A ++ B) hab, dk ha, List.append_assoc A B C, tk ha, dk ha, dk (A := A ++ B) hab, List.append_assoc A B (B ++ C), tk ha]
theorem al_rep1 {L : Mo} {b c : Nat} (hbc : b ≤ c) (hc : c ≤ L.length) : repL L b c 1 = L := by
  obtain ⟨A, B, C, rfl, ha, hb⟩ := split3 hbc hc
  have hab : (A ++ B).length = c := by rw [List.length_append]; omega
  unfold repL midL
  rw [tk (A := A ++ B) hab, dk ha, dk (A := A ++ B) hab, List.append_assoc A B C, tk ha]
  simp
theorem al_rep0 {L : Mo} {b c : Nat} : repL L b c 0 = cutL L b c := by
  unfold repL cutL
  simp
theorem al_fas1 {L : Mo} {b c : Nat} (hbc : b ≤ c) (hc : c ≤ L.length) : fasL L b c 1 = L := by
  have h := al_rep1 hbc hc
  unfold repL midL at h
  unfold fasL
  rw [smp_one]
  simpa using h
theorem al_rep2 {L : Mo} {c d : Nat} (hcd : c ≤ d) (hd : d ≤ L.length) : repL L c d 2 = putL L (midL L c d) d := by
  obtain ⟨A, B, C, rfl, ha, hb⟩ := split3 hcd hd
  have hab : (A ++ B).length = d := by rw [List.length_append]; omega
  unfold repL putL midL
  rw [tk (A := A ++ B) hab, dk ha, dk (A := A ++ B) hab, List.append_assoc A B C, tk ha]
  simp
theorem al_cut0 {L : Mo} {b : Nat} : cutL L b b = L := by
  unfold cutL
  exact List.take_append_drop b L
theorem al_faster {L : Mo} {b c f g : Nat} (hbc : b ≤ c) (hc : c ≤ L.length) (hf : 1 ≤ f) (hg : 1 ≤ g) : fasL (fasL L b c f) b (b + cdiv (c - b) f) g = fasL L b c (f * g) := by
  have hs : (smp L b c f).length = cdiv (c - b) f := by rw [smp_len, Nat.min_eq_left hc]
  have ha : (L.take b).length = b := by rw [List.length_take]; omega
  have hab : (L.take b ++ smp L b c f).length = b + cdiv (c - b) f := by rw [List.length_append, ha, hs]
  unfold fasL
  have e1 : smp (L.take b ++ smp L b c f ++ L.drop c) b (b + cdiv (c - b) f) g = smp L b c (f * g) := by
    have := smp_mid (A := L.take b) (M := smp L b c f) (C := L.drop c) g
    rw [ha, hs] at this
    rw [this, ← hs]
    exact smp_smp L b c f g hf hg
  rw [e1, dk hab, List.append_assoc (L.take b), tk ha]
theorem al_cc {L : Mo} {a b c d : Nat} (hab : a ≤ b) (hbc : b ≤ c) (hcd : c ≤ d) (hd : d ≤ L.length) : cutL (cutL L c d) a b = cutL (cutL L a b) (c - b + a) (d - b + a) := by
  have e1 : (L.take c).length = c := by rw [List.length_take]; omega
  have e2 : (L.take a).length = a := by rw [List.length_take]; omega
  unfold cutL
  have t1 : (L.take c ++ L.drop d).take a = L.take a := by
    rw [List.take_append_of_le_length (by omega), List.take_take, Nat.min_eq_left (by omega)]
  have t2 : (L.take c ++ L.drop d).drop b = (L.take c).drop b ++ L.drop d := by
    rw [List.drop_append_of_le_length (by omega)]
  have t3 : (L.take a ++ L.drop b).take (c - b + a) = L.take a ++ (L.take c).drop b := by
    have : c - b + a = (L.take a).length + (c - b) := by rw [e2]; omega
    rw [this, List.take_length_add_append, List.drop_take]
  have t4 : (L.take a ++ L.drop b).drop (d - b + a) = L.drop d := by
    have : d - b + a = (L.take a).length + (d - b) := by rw [e2]; omega
    rw [this, List.drop_length_add_append, List.drop_drop]
    congr 1
    omega
  rw [t1, t2, t3, t4, List.append_assoc]
end K24

/-! part LJ -/
set_option Elab.async false
set_option linter.all false
set_option maxRecDepth 100000
set_option maxHeartbeats 4000000
namespace K24
open PySem PySem.Spec PyProof.Rows L2
section
variable {CE CF CS CL CT CM CO : Addr} {H : Hp} {Q : VK} {E : XK} {x y : Addr} {fs gs : List Fl} {n m : Nat}
theorem put_upup {G G' : Mo → Mo} {a : Nat} : ∀ {fs : List Fl}, putFs (fs.map (Fl.up G)) (fs.map (Fl.up G')) a = fs.map (Fl.up fun L => putL (G L) (G' L) a)
  | [] => rfl
  | f :: fs => by
    have ih := put_upup (G := G) (G' := G') (a := a) (fs := fs)
    unfold putFs at ih ⊢
    rw [List.map_cons, List.map_cons, List.zipWith_cons_cons, ih, List.map_cons]
    rfl
theorem put_up {G' : Mo → Mo} {a : Nat} : putFs fs (fs.map (Fl.up G')) a = fs.map (Fl.up fun L => putL L (G' L) a) := by
  have := put_upup (G := fun L => L) (G' := G') (a := a) (fs := fs)
  rw [up_id] at this
  exact this
theorem cut_call {a b : Nat} (hx : FilmAt CE CF H x fs n) (ok : FsOk fs n) (hab : a ≤ b) (hb : b ≤ n) (hm : MmLe fs 59) (k : ∀ H' y, Same H H' → FilmAt CE CF H' y (fs.map (Fl.up fun L => cutL L a b)) (n - (b - a)) → Q (.ref y) H') : spFmCut CE CF [.ref x, .int a, .int b] H Q E :=
  ⟨x, fs, n, a, b, _, rfl, hx, ok, hab, hb, fun f hf => Nat.le_trans (hm f hf) (by decide), fine_cut ok hab hb (fun f hf => by have := hm f hf; omega) ok.big, k⟩
theorem cut_ok {a b k : Nat} (ok : FsOk fs n) (hab : a ≤ b) (hb : b ≤ n) (hm : MmLe fs k) (hk : k ≤ 100) : FsOk (fs.map (Fl.up fun L => cutL L a b)) (n - (b - a)) ∧ MmLe (fs.map (Fl.up fun L => cutL L a b)) (k + 1) := by
  have f := fine_cut (k := k + 1) ok hab hb (fun f hf => by have := hm f hf; omega) ok.big
  exact ⟨f.ok ok (by omega), f.mm⟩
theorem fas_call {a b c : Nat} (hx : FilmAt CE CF H x fs n) (ok : FsOk fs n) (hab : a ≤ b) (hb : b ≤ n) (hc : 1 ≤ c) (hc2 : c ≤ 1000) (hm : MmLe fs 58) (k : ∀ H' y, Same H H' → FilmAt CE CF H' y (fs.map (Fl.up fun L => fasL L a b c)) (n - (b - a) + cdiv (b - a) c) → Q (.ref y) H') : spFmFas CE CF [.ref x, .int a, .int b, .int c] H Q E :=
  ⟨x, fs, n, a, b, c, _, rfl, hx, ok, hab, hb, hc, hc2, fun f hf => Nat.le_trans (hm f hf) (by decide), fine_fas ok hab hb hc (fun f hf => by have := hm f hf; omega) ok.big, k⟩
theorem fas_ok {a b c k : Nat} (ok : FsOk fs n) (hab : a ≤ b) (hb : b ≤ n) (hc : 1 ≤ c) (hm : MmLe fs k) (hk : k ≤ 100) : FsOk (fs.map (Fl.up fun L => fasL L a b c)) (n - (b - a) + cdiv (b - a) c) ∧ MmLe (fs.map (Fl.up fun L => fasL L a b c)) (k + 2) := by
  have f := fine_fas (k := k + 2) ok hab hb hc (fun f hf => by have := hm f hf; omega) ok.big
  exact ⟨f.ok ok (by omega), f.mm⟩
theorem rep_call {a b t : Nat} (hx : FilmAt CE CF H x fs n) (ok : FsOk fs n) (hab : a ≤ b) (hb : b ≤ n) (ht : t ≤ 100) (hm : MmLe fs 60) (hd : (n : Int) + ((b : Int) - a) * ((t : Int) - 1) ≤ MAXL) (hf : ∀ f ∈ fs, Few (repL f.L a b t))
    (k : ∀ H' y, Same H H' → FilmAt CE CF H' y (fs.map (Fl.up fun L => repL L a b t)) (n - (b - a) + t * (b - a)) → Q (.ref y) H') : spFmRep CE CF CS CL CT [.ref x, .int a, .int b, .int t] H Q E := by
  have fw : ∀ f ∈ fs.map (Fl.up fun L => repL L a b t), Few f.L := fun f' hf' => by
    obtain ⟨f, h1, rfl⟩ := List.mem_map.mp hf'
    exact hf f h1
  refine ⟨x, fs, n, _, _, t, rfl, .inr (.inr ⟨_, rfl⟩), .inr (.inr ⟨_, rfl⟩), hx, ok, hm, ht, fun bad => absurd ⟨a, b, rfl, rfl, hab, hb⟩ bad, fun a' b' ea eb _ _ => ?_⟩
  injection ea with ea
  injection eb with eb
  have ea : a = a' := by omega
  have eb : b = b' := by omega
  subst ea; subst eb
  exact ⟨fun gt => absurd hd (by omega), fun _ => ⟨fun _ => k, fun nf => absurd fw nf⟩⟩
theorem put_call {a : Nat} (hx : FilmAt CE CF H x fs n) (hy : FilmAt CE CF H y gs m) (ok : FsOk fs n) (ok' : FsOk gs m) (en : gs.map Fl.nm = fs.map Fl.nm) (es : gs.map Fl.ss = fs.map Fl.ss) (ha : a ≤ n) (hm : MmLe fs 30) (hm' : MmLe gs 29) (hd : (n : Int) + m ≤ MAXL)
    (k : ∀ H' z, Same H H' → FilmAt CE CF H' z (putFs fs gs a) (n + m) → Q (.ref z) H') : spFmPut CE CF CM CO CL CT [.ref x, .int a, .ref y] H Q E := by
  have fw : ∀ f ∈ putFs fs gs a, Few f.L := fun f' hf' => by
    obtain ⟨i, hi⟩ := List.mem_iff_getElem?.mp hf'
    obtain ⟨f, g, h1, h2, rfl⟩ := put_get hi
    have := mm_put f.L g.L a
    have h3 := hm f (List.mem_of_getElem? h1)
    have h4 := hm' g (List.mem_of_getElem? h2)
    exact few_mm (show mm false (putL f.L g.L a) ≤ 60 by omega)
  refine ⟨x, y, fs, gs, n, m, _, rfl, .inr (.inr ⟨_, rfl⟩), hx, hy, ok, ok', hm.mono (by decide), hm'.mono (by decide), fun bad => absurd ⟨a, rfl, ha⟩ bad, fun a' ea _ => ?_⟩
  injection ea with ea
  have ea : a = a' := by omega
  subst ea
  exact ⟨fun bad => absurd en bad, fun _ => ⟨es, fun gt => absurd hd (by omega), fun _ => ⟨fun _ => k, fun nf => absurd fw nf⟩⟩⟩
theorem str_call {b c : Nat} (hx : FilmAt CE CF H x fs n) (ok : FsOk fs n) (hbc : b ≤ c) (hc : c ≤ n) (hm : MmLe fs 50) (k : ∀ H' y, Same H H' → FilmAt CE CF H' y (fs.map (Fl.up fun L => midL L b c)) (c - b) → Q (.ref y) H') : spStr CE CF [.ref x, .int b, .int c] H Q E :=
  ⟨x, fs, n, b, c, rfl, hx, ok, hbc, hc, hm, k⟩
theorem str_ok {b c k : Nat} (ok : FsOk fs n) (hbc : b ≤ c) (hc : c ≤ n) (hm : MmLe fs k) (hk : k ≤ 100) : FsOk (fs.map (Fl.up fun L => midL L b c)) (c - b) ∧ MmLe (fs.map (Fl.up fun L => midL L b c)) (k + 1) := by
  have f : Fine fs (fun L => midL L b c) (c - b) (k + 1) := ⟨by have := ok.big; omega, fun f hf => ⟨mid_len (by rw [(ok.all f hf).len]; exact hc), fun m h => by
    unfold midL at h
    exact List.mem_of_mem_take (List.mem_of_mem_drop h), by have := mm_mid f.L b c; have := hm f hf; show mm false (midL f.L b c) ≤ k + 1; omega⟩⟩
  exact ⟨f.ok ok (by omega), f.mm⟩
/-- != of two films of the same lanes that lead to the same: False -/
theorem ne_film {Q : VK} (hx : FilmAt CE CF H x fs n) (hy : FilmAt CE CF H y fs n) (ok : FsOk fs n) (k : ∀ H', Same H H' → Q (.bl false) H') : rNeIns CF (FmSame CE CF) (.ref x) (.ref y) H Q := by
  obtain ⟨dx, tn, dk, de, ex⟩ := hx.ins
  obtain ⟨dy, tn', dk', de', ey⟩ := hy.ins
  exact ⟨⟨x, y, dx, dy, _, _, rfl, rfl, ex, ey, fs, n, hx, hy, ok⟩, fun H' e => k H' e⟩
theorem eq_film {Q : VK} (hx : FilmAt CE CF H x fs n) (hy : FilmAt CE CF H y fs n) (ok : FsOk fs n) (k : ∀ H', Same H H' → Q (.bl true) H') : rEqG (DIns CF (FmSame CE CF)) (.ref x) (.ref y) H Q := by
  obtain ⟨dx, tn, dk, de, ex⟩ := hx.ins
  obtain ⟨dy, tn', dk', de', ey⟩ := hy.ins
  exact ⟨⟨x, y, dx, dy, _, _, rfl, rfl, ex, ey, fs, n, hx, hy, ok⟩, fun H' e => k H' e⟩
end
theorem put_mm {fs gs : List Fl} {a k k' : Nat} (h : MmLe fs k) (h' : MmLe gs k') : MmLe (putFs fs gs a) (k + k' + 1) := fun f' hf' => by
  obtain ⟨i, hi⟩ := List.mem_iff_getElem?.mp hf'
  obtain ⟨f, g, h1, h2, rfl⟩ := put_get hi
  have := mm_put f.L g.L a
  have h3 := h f (List.mem_of_getElem? h1)
  have h4 := h' g (List.mem_of_getElem? h2)
  show mm false (putL f.L g.L a) ≤ k + k' + 1
  omega
theorem rep0_due {n b c : Nat} (hbc : b ≤ c) (h : (n : Int) ≤ MAXL) : (n : Int) + ((c : Int) - b) * (((0 : Nat) : Int) - 1) ≤ MAXL := by
  rw [Int.natCast_zero, Int.zero_sub, Int.mul_neg, Int.mul_one]
  omega
theorem rep1_due {n b c : Nat} (h : (n : Int) ≤ MAXL) : (n : Int) + ((c : Int) - b) * (((1 : Nat) : Int) - 1) ≤ MAXL := by
  have : (((1 : Nat) : Int) - 1) = 0 := by decide
  rw [this, Int.mul_zero]
  omega
theorem rep2_due {n b c : Nat} (h : (n : Int) ≤ 300000000) (hc : c ≤ n) : (n : Int) + ((c : Int) - b) * (((2 : Nat) : Int) - 1) ≤ MAXL := by
  have : (((2 : Nat) : Int) - 1) = 1 := by decide
  have MX : MAXL = 1000000000 := rfl
  rw [this, Int.mul_one]
  omega
theorem short_eq {b c o : Nat} (hbc : b ≤ c) (ho : 1 ≤ o) : ((c : Int) - b + o - 1) / o = ((cdiv (c - b) o : Nat) : Int) := by
  unfold cdiv
  rw [Int.natCast_ediv]
  congr 1
  omega
def spRight (CE CF : Addr) : Sp := fun vs H Q _ => ∃ (fl x : Addr) (fs : List Fl) (n : Nat), vs = [.ref fl, .ref x] ∧ FeedAt H fl ∧ FilmAt CE CF H x fs n ∧ FsOk fs n ∧ MmLe fs 22 ∧ n ≤ 300000000 ∧ ∀ H', SameX fl H H' → FeedAt H' fl → Q (.bl true) H'
section
variable {P : Program} {w : World} {K : PySem.W.Frag} {mg : Str → Option Value} {base : Heap} {CE CF CS CL CT CM CO : Addr}
theorem sc__law_is_right : FnScope ["_law_feed_here", "_law_film", "_law_a", "_law_b", "_law_c", "_law_d", "_law_inner", "_law_one", "_law_other", "_law_first", "_law_short"] ["_law_feed_here", "_law_film"] (defScope (top 53)) := ⟨rfl, rfl, rfl, by decide +kernel, rfl, by decide +kernel, by decide +kernel⟩
theorem ok_law_is_right (T : Tx K mg) (TF : ClF K CF) (N : NeT K CF) (D : Has K (dN "_law_is_right" 53)) (g : mg "_law_is_right" = some (.ref (He.fAd K ("_law_is_right", none)))) (G_take : OkG P w K mg base 1 "_law_take" ["_law_feed_here", "_law_size"] spTake)
    (G_spots : OkG P w K mg base 3 "_law_spots" ["_law_feed_here", "_law_length"] spSpots) (G_stretch : OkG P w K mg base 13 "_law_stretch" ["_law_film", "_law_first", "_law_last"] (spStr CE CF)) (G_cut : OkM P w K mg base 12 CF "cut" ["self", "first", "last"] (spFmCut CE CF))
    (G_faster : OkM P w K mg base 12 CF "faster" ["self", "first", "last", "factor"] (spFmFas CE CF)) (G_repeat : OkM P w K mg base 12 CF "repeat" ["self", "first", "last", "times"] (spFmRep CE CF CS CL CT)) (G_put_in : OkM P w K mg base 12 CF "put_in" ["self", "moment", "other"] (spFmPut CE CF CM CO CL CT))
    (G_eq : OkM P w K mg base 4 CF "__eq__" ["self", "other"] (spEq (FmSame CE CF))) : OkG P w K mg base 14 "_law_is_right" ["_law_feed_here", "_law_film"] (spRight CE CF) := by
  refine okG D g sc__law_is_right (fun _ _ _ _ _ _ us hl => match us, hl with | [_, _], _ => rfl) (fun vs H Q E h => ?_) (fun f cdv A outer s H vs Q E hr h => ?_)
  · obtain ⟨fl, x, fs, n, rfl, _⟩ := h
    rfl
  · obtain ⟨fl, x, fs, n, rfl, hf, hx, ok, hm, hn, q⟩ := h
    refine ⟨_, PSs.nox (pss_cons (ps_asg (pe_cG G_spots (hr.mono (by decide)) rfl passL (pa_cons (pv 0) (pa_cons (pe_callB (call_min2 rfl) (by rfl) T.min (by decide +kernel) (pa_cons (pe_fld (pv 1) rfl) (pa_cons (pe_op op_pow pe_int pe_int) pa_nil))) pa_nil))) (pg_lst rfl (pgs_cons (pg_name (i := 2) sc__law_is_right.nd rfl (Or.inl rfl)) (pgs_cons (pg_name (i := 3) sc__law_is_right.nd rfl (Or.inl rfl)) (pgs_cons (pg_name (i := 4) sc__law_is_right.nd rfl (Or.inl rfl)) (pgs_cons (pg_name (i := 5) sc__law_is_right.nd rfl (Or.inl rfl)) pgs_nil))))))
      (pss_cons (ps_set (i := 6) sc__law_is_right.nd rfl (Or.inl rfl) (pe_cG G_stretch (hr.mono (by decide)) rfl passL (pa_cons (pv 1) (pa_cons (pv 3) (pa_cons (pv 4) pa_nil)))))
      (pss_cons (ps_if (PW.pt (pw_or (pt_cmpR (op_neG N G_eq (hr.mono (by decide))) (pe_mG (pe_mG (pv 1) G_cut (hr.mono (by decide)) passL (pa_cons (pv 3) (pa_cons (pv 4) pa_nil))) G_put_in (hr.mono (by decide)) passL (pa_cons (pv 3) (pa_cons (pv 6) pa_nil))) (pv 1) (nomark _)) (pw_or1 (pt_cmpR (op_neG N G_eq (hr.mono (by decide))) (pe_mG (pe_mG (pv 1) G_put_in (hr.mono (by decide)) passL (pa_cons (pv 3) (pa_cons (pv 6) pa_nil))) G_cut (hr.mono (by decide)) passL (pa_cons (pv 3) (pa_cons (pv 4) pa_nil))) (pv 1) (nomark _)))))
        (pss_one (ps_ret pe_bl))
        pss_nil)
      (pss_cons (ps_if (PW.pt (pw_or (pt_cmpR (op_neG N G_eq (hr.mono (by decide))) (pe_mG (pv 1) G_repeat (hr.mono (by decide)) passL (pa_cons (pv 3) (pa_cons (pv 4) (pa_cons pe_int pa_nil)))) (pv 1) (nomark _)) (pw_or (pt_cmpR (op_neG N G_eq (hr.mono (by decide))) (pe_mG (pv 1) G_repeat (hr.mono (by decide)) passL (pa_cons (pv 3) (pa_cons (pv 4) (pa_cons pe_int pa_nil)))) (pe_mG (pv 1) G_cut (hr.mono (by decide)) passL (pa_cons (pv 3) (pa_cons (pv 4) pa_nil))) (nomark _)) (pw_or1 (pt_cmpR (op_neG N G_eq (hr.mono (by decide))) (pe_mG (pv 1) G_faster (hr.mono (by decide)) passL (pa_cons (pv 3) (pa_cons (pv 4) (pa_cons pe_int pa_nil)))) (pv 1) (nomark _))))))
        (pss_one (ps_ret pe_bl))
        pss_nil)
      (pss_cons (ps_par (i := 7) (j := 8) rfl sc__law_is_right.nd rfl rfl (by decide) rfl rfl (pa_cons (pe_op op_add pe_int (pe_cG G_take (hr.mono (by decide)) rfl passL (pa_cons (pv 0) (pa_cons pe_int pa_nil)))) (pa_cons (pe_op op_add pe_int (pe_cG G_take (hr.mono (by decide)) rfl passL (pa_cons (pv 0) (pa_cons pe_int pa_nil)))) pa_nil)) (by rfl))
      (pss_cons (ps_set (i := 9) sc__law_is_right.nd rfl (Or.inl rfl) (pe_mG (pv 1) G_faster (hr.mono (by decide)) passL (pa_cons (pv 3) (pa_cons (pv 4) (pa_cons (pv 7) pa_nil)))))
      (pss_cons (ps_set (i := 10) sc__law_is_right.nd rfl (Or.inl rfl) (pe_op op_fdiv (pe_op op_sub (pe_op op_add (pe_op op_sub (pv 4) (pv 3)) (pv 7)) pe_int) (pv 7)))
      (pss_cons (ps_if (pt_cmpR (op_neG N G_eq (hr.mono (by decide))) (pe_mG (pv 9) G_faster (hr.mono (by decide)) passL (pa_cons (pv 3) (pa_cons (pe_op op_add (pv 3) (pv 10)) (pa_cons (pv 8) pa_nil)))) (pe_mG (pv 1) G_faster (hr.mono (by decide)) passL (pa_cons (pv 3) (pa_cons (pv 4) (pa_cons (pe_op op_mul (pv 7) (pv 8)) pa_nil)))) (nomark _))
        (pss_one (ps_ret pe_bl))
        pss_nil)
      (pss_cons (ps_if (pt_cmpR op_ne (pe_fld (pv 9) rfl) (pe_op op_add (pe_op op_sub (pe_fld (pv 1) rfl) (pe_op op_sub (pv 4) (pv 3))) (pv 10)) (nomark _))
        (pss_one (ps_ret pe_bl))
        pss_nil)
      (pss_cons (ps_if (pt_cmpR (op_neG N G_eq (hr.mono (by decide))) (pe_mG (pe_mG (pv 1) G_cut (hr.mono (by decide)) passL (pa_cons (pv 4) (pa_cons (pv 5) pa_nil))) G_cut (hr.mono (by decide)) passL (pa_cons (pv 2) (pa_cons (pv 3) pa_nil))) (pe_mG (pe_mG (pv 1) G_cut (hr.mono (by decide)) passL (pa_cons (pv 2) (pa_cons (pv 3) pa_nil))) G_cut (hr.mono (by decide)) passL (pa_cons (pe_op op_add (pe_op op_sub (pv 4) (pv 3)) (pv 2)) (pa_cons (pe_op op_add (pe_op op_sub (pv 5) (pv 3)) (pv 2)) pa_nil))) (nomark _))
        (pss_one (ps_ret pe_bl))
        pss_nil)
      (pss_cons (ps_if (pt_cmpR (op_neG N G_eq (hr.mono (by decide))) (pe_mG (pv 1) G_repeat (hr.mono (by decide)) passL (pa_cons (pv 4) (pa_cons (pv 5) (pa_cons pe_int pa_nil)))) (pe_mG (pv 1) G_put_in (hr.mono (by decide)) passL (pa_cons (pv 5) (pa_cons (pe_cG G_stretch (hr.mono (by decide)) rfl passL (pa_cons (pv 1) (pa_cons (pv 4) (pa_cons (pv 5) pa_nil)))) pa_nil))) (nomark _))
        (pss_one (ps_ret pe_bl))
        pss_nil)
      (pss_one (ps_ret (pe_and (pe_cmpR op_eq (pe_fld (pe_mG (pv 1) G_cut (hr.mono (by decide)) passL (pa_cons pe_int (pa_cons (pe_fld (pv 1) rfl) pa_nil))) rfl) pe_int (nomark _)) (pe_one (pe_cmpR (op_eqG (rcG_ok G_eq) (hr.mono (by decide))) (pe_mG (pv 1) G_cut (hr.mono (by decide)) passL (pa_cons (pv 3) (pa_cons (pv 3) pa_nil))) (pv 1) (nomark _))))))))))))))))), ?_⟩
    obtain ⟨dx, tn, dk0, de, ex⟩ := hx.ins
    refine ⟨_, rfl, _, rfl, x, CF, dx, _, _, rfl, ex, TF.cl, TF.nL, fmF_l, _, _, rfl, rfl, ⟨by decide, by decide, by decide⟩, _, _, rfl, ?_⟩
    have e9 : (10 : Int) ^ (9 : Int).toNat = 1000000000 := by decide +kernel
    rw [e9, if_neg (show ¬ (1000000000 : Int) < n by omega)]
    refine ⟨fl, n, rfl, by omega, hf, fun H1 p a b c d s1 f1 ep hab hbc hcd hd => ?_⟩
    refine ⟨p, _, rfl, SqL.of ep, rfl, _, _, rfl, _, _, rfl, _, _, rfl, _, _, rfl, rfl, ?_⟩
    have hx1 := hx.keep (s1.f hf)
    have hbig := ok.big
    have hbn : b ≤ n := by omega
    have hcn : c ≤ n := by omega
    have MX : MAXL = 1000000000 := rfl
    have m50 : MmLe fs 50 := hm.mono (by decide)
    have m59 : MmLe fs 59 := hm.mono (by decide)
    have m58 : MmLe fs 58 := hm.mono (by decide)
    have m60 : MmLe fs 60 := hm.mono (by decide)
    have m30 : MmLe fs 30 := hm.mono (by decide)
    have ins : ∀ {H : Hp} {y : Addr} {gs : List Fl} {m : Nat}, FilmAt CE CF H y gs m → ∃ dx fs0, H y = some (.ins CF dx fs0) ∧ fs0.lookup ("cut" : Str) = none ∧ fs0.lookup ("faster" : Str) = none ∧ fs0.lookup ("repeat" : Str) = none ∧ fs0.lookup ("put_in" : Str) = none ∧ fs0.lookup ("length" : Str) = some (.int m) := fun hy => by
      obtain ⟨_, _, _, _, e⟩ := hy.ins
      exact ⟨_, _, e, fmF_cut, fmF_fas, fmF_rep, fmF_put, fmF_l⟩
    -- inner
    refine ⟨_, rfl, _, rfl, _, rfl, ?_⟩
    dsimp only [tNil, tCons, tC]
    refine str_call hx1 ok hbc hcn m50 fun H2 yi s2 hyi => ?_
    obtain ⟨oki, mi⟩ := str_ok ok hbc hcn hm (by decide)
    have hx2 := hx1.same s2
    obtain ⟨d2, g2, ex2, xc2, _, _, xp2, _⟩ := ins hx2
    -- film.cut(b, c).put_in(b, inner) != film
    refine ⟨_, rfl, x, d2, _, rfl, ex2, xc2, _, rfl, _, rfl, ?_⟩
    dsimp only [tNil, tCons, tC]
    refine cut_call hx2 ok hbc hcn m59 fun H3 yc s3 hyc => ?_
    obtain ⟨okc, mc⟩ := cut_ok ok hbc hcn hm (by decide)
    obtain ⟨d3, g3, ex3, _, _, _, xp3, _⟩ := ins hyc
    refine ⟨yc, d3, _, rfl, ex3, xp3, _, rfl, _, rfl, ?_⟩
    dsimp only [tNil, tCons, tC]
    refine put_call hyc (hyi.same s3) okc oki (by rw [up_nm, up_nm]) (by rw [up_ss, up_ss]) (by omega) (mc.mono (by decide)) (mi.mono (by decide)) (by omega) fun H4 yp s4 hyp => ?_
    rw [put_upup, up_congr (G' := fun L => L) fun f hf => al_put hbc (by rw [(ok.all f hf).len]; exact hcn), up_id] at hyp
    have en1 : n - (c - b) + (c - b) = n := by omega
    rw [en1] at hyp
    have hx4 := (hx2.same s3).same s4
    refine ⟨_, rfl, ne_film hyp hx4 ok fun H5 s5 => ⟨_, rfl, ?_⟩⟩
    -- film.put_in(b, inner).cut(b, c) != film
    have hx5 := hx4.same s5
    have hyi5 := ((hyi.same s3).same s4).same s5
    obtain ⟨d5, g5, ex5, xc5, _, _, xp5, _⟩ := ins hx5
    have len : ∀ f ∈ fs, f.L.length = n := fun f hf => (ok.all f hf).len
    refine ⟨_, rfl, x, d5, _, rfl, ex5, xp5, _, rfl, _, rfl, ?_⟩
    dsimp only [tNil, tCons, tC]
    refine put_call hx5 hyi5 ok oki up_nm up_ss hbn m30 (mi.mono (by decide)) (by omega) fun H6 yq s6 hyq => ?_
    have okq := put_ok (a := b) ok oki up_nm up_ss hbn (by omega) (hm.mono (by decide)) (mi.mono (by decide))
    have mq := put_mm (a := b) hm mi
    obtain ⟨d6, g6, ex6, xc6, _, _, _, _⟩ := ins hyq
    refine ⟨yq, d6, _, rfl, ex6, xc6, _, rfl, _, rfl, ?_⟩
    dsimp only [tNil, tCons, tC]
    refine cut_call hyq okq hbc (by omega) (mq.mono (by decide)) fun H7 yr s7 hyr => ?_
    rw [put_up, up_up, up_congr (G' := fun L => L) fun f hf => al_cut hbc (by rw [len f hf]; exact hcn), up_id] at hyr
    have en2 : n + (c - b) - (c - b) = n := by omega
    rw [en2] at hyr
    have hx7 := (hx5.same s6).same s7
    refine ⟨_, rfl, ne_film hyr hx7 ok fun H8 s8 => ⟨_, rfl, ?_⟩⟩
    -- film.repeat(b, c, 1) != film
    have hx8 := hx7.same s8
    obtain ⟨d8, g8, ex8, _, _, xr8, _, _⟩ := ins hx8
    have er1 : fs.map (Fl.up fun L => repL L b c 1) = fs := by rw [up_congr (G' := fun L => L) fun f hf => al_rep1 hbc (by rw [len f hf]; exact hcn), up_id]
    refine ⟨_, rfl, x, d8, _, rfl, ex8, xr8, _, rfl, _, rfl, ?_⟩
    dsimp only [tNil, tCons, tC]
    refine rep_call (t := 1) hx8 ok hbc hcn (by decide) m60 (rep1_due hbig) (fun f hf => by rw [al_rep1 hbc (by rw [len f hf]; exact hcn)]; exact few_mm (m60 f hf)) fun H9 ya s9 hya => ?_
    have en3 : n - (c - b) + 1 * (c - b) = n := by omega
    rw [er1, en3] at hya
    have hx9 := hx8.same s9
    refine ⟨_, rfl, ne_film hya hx9 ok fun H10 s10 => ⟨_, rfl, ?_⟩⟩
    -- film.repeat(b, c, 0) != film.cut(b, c)
    have hx10 := hx9.same s10
    obtain ⟨d10, g10, ex10, _, _, xr10, _, _⟩ := ins hx10
    have er0 : fs.map (Fl.up fun L => repL L b c 0) = fs.map (Fl.up fun L => cutL L b c) := up_congr fun f hf => al_rep0
    refine ⟨_, rfl, x, d10, _, rfl, ex10, xr10, _, rfl, _, rfl, ?_⟩
    dsimp only [tNil, tCons, tC]
    refine rep_call (t := 0) hx10 ok hbc hcn (by decide) m60 (rep0_due hbc hbig) (fun f hf => by rw [al_rep0]; exact few_mm (by have := mm_cut f.L hbc; have := hm f hf; omega)) fun H11 yb s11 hyb => ?_
    have en4 : n - (c - b) + 0 * (c - b) = n - (c - b) := by omega
    rw [er0, en4] at hyb
    have hx11 := hx10.same s11
    obtain ⟨d11, g11, ex11, xc11, _, _, _, _⟩ := ins hx11
    refine ⟨_, rfl, x, d11, _, rfl, ex11, xc11, _, rfl, _, rfl, ?_⟩
    dsimp only [tNil, tCons, tC]
    refine cut_call hx11 ok hbc hcn m59 fun H12 yd s12 hyd => ?_
    refine ne_film (hyb.same s12) hyd okc fun H13 s13 => ⟨_, rfl, ?_⟩
    -- film.faster(b, c, 1) != film
    have hx13 := (hx11.same s12).same s13
    obtain ⟨d13, g13, ex13, _, xf13, _, _, _⟩ := ins hx13
    refine ⟨_, rfl, x, d13, _, rfl, ex13, xf13, _, rfl, _, rfl, ?_⟩
    dsimp only [tNil, tCons, tC]
    refine fas_call (c := 1) hx13 ok hbc hcn (by decide) (by decide) m58 fun H14 ye s14 hye => ?_
    have ef1 : fs.map (Fl.up fun L => fasL L b c 1) = fs := by rw [up_congr (G' := fun L => L) fun f hf => al_fas1 hbc (by rw [len f hf]; exact hcn), up_id]
    have en5 : n - (c - b) + cdiv (c - b) 1 = n := by rw [cdiv_one]; omega
    rw [ef1, en5] at hye
    have hx14 := hx13.same s14
    refine ⟨_, rfl, ne_film hye hx14 ok fun H15 s15 => ⟨_, rfl, ?_⟩⟩
    -- one, other
    have sA : Same H1 H15 := s2.trans (s3.trans (s4.trans (s5.trans (s6.trans (s7.trans (s8.trans (s9.trans (s10.trans (s11.trans (s12.trans (s13.trans (s14.trans s15))))))))))))
    have f15 := f1.keep sA
    have hx15 := hx1.same sA
    refine ⟨_, rfl, fl, 4, rfl, by decide, by decide, f15, fun H16 v7 s16 f16 a16 b16 => ⟨_, _, rfl, rfl, _, rfl, fl, 4, rfl, by decide, by decide, f16, fun H17 v8 s17 f17 a17 b17 => ⟨_, _, rfl, rfl, _, _, rfl, ?_⟩⟩⟩
    have k17 := s16.trans s17
    have hx17 := hx15.keep (k17.f f15)
    obtain ⟨o1, eo1, h1a, h1b⟩ : ∃ o : Nat, 1 + v7 = (o : Int) ∧ 1 ≤ o ∧ o ≤ 4 := ⟨(1 + v7).toNat, by omega, by omega, by omega⟩
    obtain ⟨o2, eo2, h2a, h2b⟩ : ∃ o : Nat, 1 + v8 = (o : Int) ∧ 1 ≤ o ∧ o ≤ 4 := ⟨(1 + v8).toNat, by omega, by omega, by omega⟩
    dsimp only
    rw [eo1, eo2]
    -- first
    obtain ⟨d17, g17, ex17, _, xf17, _, _, _⟩ := ins hx17
    refine ⟨_, rfl, x, d17, _, rfl, ex17, xf17, _, rfl, _, rfl, _, rfl, ?_⟩
    dsimp only [tNil, tCons, tC]
    refine fas_call (c := o1) hx17 ok hbc hcn h1a (by omega) m58 fun H18 yf s18 hyf => ?_
    obtain ⟨okf, mf⟩ := fas_ok (c := o1) ok hbc hcn h1a hm (by decide)
    have hcd0 := cdiv_le_self (x := c - b) h1a
    -- short
    refine ⟨_, rfl, _, rfl, _, _, rfl, rfl, _, rfl, _, _, rfl, rfl, _, _, rfl, rfl, _, rfl, _, _, rfl, rfl, ⟨by omega, by omega⟩, ?_⟩
    dsimp only
    rw [short_eq hbc h1a]
    -- first.faster(b, b + short, other) != film.faster(b, c, one * other)
    have hx18 := hx17.same s18
    obtain ⟨d18, g18, ex18, _, xf18, _, _, xl18⟩ := ins hyf
    refine ⟨_, rfl, yf, d18, _, rfl, ex18, xf18, _, rfl, _, rfl, _, rfl, _, _, rfl, rfl, _, rfl, ?_⟩
    dsimp only [tNil, tCons, tC]
    rw [show ((b : Int) + (cdiv (c - b) o1 : Nat)) = ((b + cdiv (c - b) o1 : Nat) : Int) from rfl]
    refine fas_call (c := o2) hyf okf (by omega) (by omega) h2a (by omega) (mf.mono (by decide)) fun H19 yg s19 hyg => ?_
    have hx19 := hx18.same s19
    obtain ⟨d19, g19, ex19, _, xf19, _, _, _⟩ := ins hx19
    refine ⟨_, rfl, x, d19, _, rfl, ex19, xf19, _, rfl, _, rfl, _, rfl, _, rfl, _, _, rfl, rfl, .inr ⟨by omega, by omega⟩, ?_⟩
    dsimp only [tNil, tCons, tC]
    rw [show ((o1 : Int) * (o2 : Int)) = ((o1 * o2 : Nat) : Int) from rfl]
    have hoo : o1 * o2 ≤ 4 * 4 := Nat.mul_le_mul h1b h2b
    have hoo1 : 1 ≤ o1 * o2 := Nat.mul_pos h1a h2a
    refine fas_call (c := o1 * o2) hx19 ok hbc hcn hoo1 (by omega) m58 fun H20 yh s20 hyh => ?_
    rw [up_up, up_congr (G' := fun L => fasL L b c (o1 * o2)) fun f hf => al_faster hbc (by rw [len f hf]; exact hcn) h1a h2a] at hyg
    obtain ⟨okh, mh⟩ := fas_ok (c := o1 * o2) ok hbc hcn hoo1 hm (by decide)
    have en6 : n - (c - b) + cdiv (c - b) o1 - (b + cdiv (c - b) o1 - b) + cdiv (b + cdiv (c - b) o1 - b) o2 = n - (c - b) + cdiv (c - b) (o1 * o2) := by
      rw [show b + cdiv (c - b) o1 - b = cdiv (c - b) o1 by omega, cdiv_mul _ _ _ h1a h2a]
      omega
    rw [en6] at hyg
    refine ne_film (hyg.same s20) hyh okh fun H21 s21 => ⟨_, rfl, ?_⟩
    have hyf21 := ((hyf.same s19).same s20).same s21
    have hx21 := (hx19.same s20).same s21
    obtain ⟨d21, g21, ex21, _, _, _, _, xl21⟩ := ins hyf21
    obtain ⟨e21, i21, iex21, ixc21, _, _, _, ixl21⟩ := ins hx21
    -- first.length
    refine ⟨_, rfl, yf, CF, d21, _, _, rfl, ex21, TF.cl, TF.nL, xl21, _, rfl, x, CF, e21, _, _, rfl, iex21, TF.cl, TF.nL, ixl21, _, rfl, _, rfl, _, _, rfl, rfl, _, _, rfl, rfl, _, rfl, _, _, rfl, rfl, rfl, _, rfl, ?_⟩
    have elen : (V.int ((n - (c - b) + cdiv (c - b) o1 : Nat) : Int)) = V.int ((n : Int) - ((c : Int) - b) + (cdiv (c - b) o1 : Nat)) := by
      congr 1
      omega
    rw [decide_eq_true elen]
    -- film.cut(c, d).cut(a, b) != film.cut(a, b).cut(c - b + a, d - b + a)
    refine ⟨_, rfl, x, e21, _, rfl, iex21, ixc21, _, rfl, _, rfl, ?_⟩
    dsimp only [tNil, tCons, tC]
    refine cut_call hx21 ok hcd hd m59 fun H22 y1 s22 hy1 => ?_
    obtain ⟨okcd, mcd⟩ := cut_ok ok hcd hd hm (by decide)
    obtain ⟨d22, g22, ex22, xc22, _, _, _, _⟩ := ins hy1
    refine ⟨y1, d22, _, rfl, ex22, xc22, _, rfl, _, rfl, ?_⟩
    dsimp only [tNil, tCons, tC]
    refine cut_call hy1 okcd hab (by omega) (mcd.mono (by decide)) fun H23 y2 s23 hy2 => ?_
    have hx23 := (hx21.same s22).same s23
    obtain ⟨d23, g23, ex23, xc23, _, _, _, _⟩ := ins hx23
    refine ⟨_, rfl, x, d23, _, rfl, ex23, xc23, _, rfl, _, rfl, ?_⟩
    dsimp only [tNil, tCons, tC]
    refine cut_call hx23 ok hab hbn m59 fun H24 y3 s24 hy3 => ?_
    obtain ⟨okab, mab⟩ := cut_ok ok hab hbn hm (by decide)
    obtain ⟨d24, g24, ex24, xc24, _, _, _, _⟩ := ins hy3
    refine ⟨y3, d24, _, rfl, ex24, xc24, _, rfl, _, rfl, _, _, rfl, rfl, _, rfl, _, _, rfl, rfl, _, rfl, _, rfl, _, _, rfl, rfl, _, rfl, _, _, rfl, rfl, ?_⟩
    dsimp only [tNil, tCons, tC]
    rw [show ((c : Int) - b + a) = ((c - b + a : Nat) : Int) by omega, show ((d : Int) - b + a) = ((d - b + a : Nat) : Int) by omega]
    refine cut_call hy3 okab (by omega) (by omega) (mab.mono (by decide)) fun H25 y4 s25 hy4 => ?_
    rw [up_up] at hy2
    rw [up_up, ← up_congr (G := fun L => cutL (cutL L c d) a b) fun f hf => al_cc hab hbc hcd (by rw [len f hf]; exact hd)] at hy4
    have en7 : n - (b - a) - (d - b + a - (c - b + a)) = n - (d - c) - (b - a) := by omega
    rw [en7] at hy4
    have okcc : FsOk (fs.map (Fl.up fun L => cutL (cutL L c d) a b)) (n - (d - c) - (b - a)) := by
      have := (cut_ok okcd hab (by omega) mcd (by decide)).1
      rw [up_up] at this
      exact this
    refine ne_film ((hy2.same s24).same s25) hy4 okcc fun H26 s26 => ⟨_, rfl, ?_⟩
    -- film.repeat(c, d, 2) != film.put_in(d, stretch)
    have hx26 := ((hx23.same s24).same s25).same s26
    obtain ⟨d26, g26, ex26, _, _, xr26, _, _⟩ := ins hx26
    obtain ⟨okm, mmi⟩ := str_ok ok hcd hd hm (by decide)
    refine ⟨_, rfl, x, d26, _, rfl, ex26, xr26, _, rfl, _, rfl, ?_⟩
    dsimp only [tNil, tCons, tC]
    refine rep_call (t := 2) hx26 ok hcd hd (by decide) m60 (rep2_due (by omega) hd) (fun f hf => by rw [al_rep2 hcd (by rw [len f hf]; exact hd)]; exact few_mm (by have := mm_put f.L (midL f.L c d) d; have := hm f hf; have := mm_mid f.L c d; omega)) fun H27 y5 s27 hy5 => ?_
    have hx27 := hx26.same s27
    obtain ⟨d27, g27, ex27, _, _, _, xp27, _⟩ := ins hx27
    refine ⟨_, rfl, x, d27, _, rfl, ex27, xp27, _, rfl, _, rfl, _, rfl, _, rfl, ?_⟩
    dsimp only [tNil, tCons, tC]
    refine str_call hx27 ok hcd hd m50 fun H28 y6 s28 hy6 => ?_
    refine put_call (hx27.same s28) hy6 ok okm up_nm up_ss hd m30 (mmi.mono (by decide)) (by omega) fun H29 y7 s29 hy7 => ?_
    have okp2 := put_ok (a := d) ok okm up_nm up_ss hd (by omega) (hm.mono (by decide)) (mmi.mono (by decide))
    rw [put_up, ← up_congr (G := fun L => repL L c d 2) fun f hf => al_rep2 hcd (by rw [len f hf]; exact hd)] at hy7 okp2
    have en8 : n - (d - c) + 2 * (d - c) = n + (d - c) := by omega
    rw [en8] at hy5
    refine ne_film ((hy5.same s28).same s29) hy7 okp2 fun H30 s30 => ⟨_, rfl, ?_⟩
    -- the last line
    have hx30 := ((hx27.same s28).same s29).same s30
    obtain ⟨d30, g30, ex30, xc30, _, _, _, xl30⟩ := ins hx30
    refine ⟨_, rfl, x, d30, _, rfl, ex30, xc30, _, rfl, x, CF, d30, _, _, rfl, ex30, TF.cl, TF.nL, xl30, ?_⟩
    dsimp only [tNil, tCons, tC]
    refine cut_call (a := 0) hx30 ok (Nat.zero_le n) (Nat.le_refl n) m59 fun H31 y8 s31 hy8 => ?_
    obtain ⟨d31, g31, ex31, _, _, _, _, xl31⟩ := ins hy8
    refine ⟨y8, CF, d31, _, _, rfl, ex31, TF.cl, TF.nL, xl31, rfl, _, rfl, ?_⟩
    have ez : V.int ((n - (n - 0) : Nat) : Int) = V.int 0 := by
      congr 1
      omega
    rw [decide_eq_true ez]
    have hx31 := hx30.same s31
    obtain ⟨d31', g31', ex31', xc31', _, _, _, _⟩ := ins hx31
    refine ⟨_, rfl, x, d31', _, rfl, ex31', xc31', _, rfl, _, rfl, ?_⟩
    dsimp only [tNil, tCons, tC]
    refine cut_call hx31 ok (Nat.le_refl b) hbn m59 fun H32 y9 s32 hy9 => ?_
    rw [up_congr (G' := fun L => L) fun f hf => al_cut0, up_id] at hy9
    have en9 : n - (b - b) = n := by omega
    rw [en9] at hy9
    have sB : Same H17 H32 := s18.trans (s19.trans (s20.trans (s21.trans (s22.trans (s23.trans (s24.trans (s25.trans (s26.trans (s27.trans (s28.trans (s29.trans (s30.trans (s31.trans s32)))))))))))))
    refine ⟨_, rfl, eq_film hy9 (hx31.same s32) ok fun H33 s33 => q H33 ?_ ((f17.keep sB).keep s33)⟩
    exact ((s1.trans (.of sA)).trans k17).trans (.of (sB.trans s33))
end
end K24

/-! part LK -/
set_option Elab.async false
set_option linter.all false
set_option maxRecDepth 100000
set_option maxHeartbeats 4000000
namespace K24
open PySem PySem.Spec PyProof.Rows L2
/-- which clause takes which exception -/
structure ExmT (K : PySem.W.Frag) (CS CM CO CL CT : Addr) : Prop where
  ss : PySem.W.exmOne K (.ref CS) (.ref CS) = some true
  ms : PySem.W.exmOne K (.ref CM) (.ref CS) = some false
  mm : PySem.W.exmOne K (.ref CM) (.ref CM) = some true
  os : PySem.W.exmOne K (.ref CO) (.ref CS) = some false
  om : PySem.W.exmOne K (.ref CO) (.ref CM) = some false
  oo : PySem.W.exmOne K (.ref CO) (.ref CO) = some true
  ls : PySem.W.exmOne K (.ref CL) (.ref CS) = some false
  lm : PySem.W.exmOne K (.ref CL) (.ref CM) = some false
  lo : PySem.W.exmOne K (.ref CL) (.ref CO) = some false
  ll : PySem.W.exmOne K (.ref CL) (.ref CL) = some true
  tl : PySem.W.exmOne K (.ref CT) (.ref CL) = some false
  tt : PySem.W.exmOne K (.ref CT) (.ref CT) = some true
theorem Same.xob {H : Hp} {a : Addr} {cls : Value} {d : Option Addr} (h : H a = none) : Same H (upd H a (xob a cls d)) := Same.new h
theorem bl_eq {b c d : Bool} (h1 : b = d) (h2 : c = d) : decide (V.bl b = V.bl c) = true := by
  rw [h1, h2]
  exact decide_eq_true rfl
def spTooLong (CE CF : Addr) : Sp := fun vs H Q _ => ∃ (x : Addr) (fs : List Fl) (n a b t : Nat), vs = [.ref x, .int a, .int b, .int t] ∧ FilmAt CE CF H x fs n ∧ FsOk fs n ∧ MmLe fs 60 ∧ a ≤ b ∧ b ≤ n ∧ t ≤ 100 ∧ ∀ H', Same H H' → Q (.bl true) H'
section
variable {P : Program} {w : World} {K : PySem.W.Frag} {mg : Str → Option Value} {base : Heap} {CE CF CS CL CT CM CO : Addr}
theorem sc__law_is_too_long : FnScope ["_law_film", "_law_first", "_law_last", "_law_times", "_law_caught", "error", "_law_due"] ["_law_film", "_law_first", "_law_last", "_law_times"] (defScope (top 55)) := ⟨rfl, rfl, rfl, by decide +kernel, rfl, by decide +kernel, by decide +kernel⟩
theorem ok_law_is_too_long (T : Tx K mg) (TF : ClF K CF) (XT : ExmT K CS CM CO CL CT) (TL' : ExT K mg CL "TooLong") (TT' : ExT K mg CT "TooManyPieces") (nf : PySem.W.findIn K (.ref CL) "found" = some none) (D : Has K (dN "_law_is_too_long" 55)) (g : mg "_law_is_too_long" = some (.ref (He.fAd K ("_law_is_too_long", none))))
    (G_repeat : OkM P w K mg base 12 CF "repeat" ["self", "first", "last", "times"] (spFmRep CE CF CS CL CT)) : OkG P w K mg base 13 "_law_is_too_long" ["_law_film", "_law_first", "_law_last", "_law_times"] (spTooLong CE CF) := by
  refine okG D g sc__law_is_too_long (fun _ _ _ _ _ _ us hl => match us, hl with | [_, _, _, _], _ => rfl) (fun vs H Q E h => ?_) (fun f cdv A outer s H vs Q E hr h => ?_)
  · obtain ⟨x, fs, n, a, b, t, rfl, _⟩ := h
    rfl
  · obtain ⟨x, fs, n, a, b, t, rfl, hx, ok, hm, hab, hb, ht, q⟩ := h
    refine ⟨_, PSs.nox (pss_cons (ps_set (i := 4) sc__law_is_too_long.nd rfl (Or.inl rfl) pe_non)
      (pss_cons (ps_try_mix rfl rfl sc__law_is_too_long.nd rfl takes0 (fun W pn xe tk _ => pss_one (ps_expr (pe_mS (pv 0) G_repeat hr (fun σ => passAt tk σ) (pa_cons (pv 1) (pa_cons (pv 2) (pa_cons (pv 3) pa_nil))))))
        (.as (i := 5) ⟨rfl, by decide, .inl TL'.g⟩ rfl rfl (fun a oe cls d pn hz hf => pss_one (ps_set (i := 4) sc__law_is_too_long.nd rfl (Or.inl rfl) (pv 5)))
        (.as (i := 5) ⟨rfl, by decide, .inl TT'.g⟩ rfl rfl (fun a oe cls d pn hz hf => pss_one (ps_set (i := 4) sc__law_is_too_long.nd rfl (Or.inl rfl) pe_non)) .nil)))
      (pss_cons (ps_set (i := 6) sc__law_is_too_long.nd rfl (Or.inl rfl) (pe_op op_add (pe_fld (pv 0) rfl) (pe_op op_mul (pe_op op_sub (pv 2) (pv 1)) (pe_op op_sub (pv 3) pe_int))))
      (pss_one (ps_ret (pe_and (pe_cmpR op_eq (pe_cmpR op_notN (pv 4) pe_non (nomark _)) (pe_cmpR op_gt (pv 6) (pe_op op_pow pe_int pe_int) (nomark _)) (nomark _)) (pe_one (pe_or (pe_cmpR op_isN (pv 4) pe_non (nomark _)) (pe_one (pe_cmpR op_eq (pe_xo (C := CL) (pv 4) rfl) (pv 6) (nomark _))))))))))), ?_⟩
    obtain ⟨dx, tn, dk0, de, ex⟩ := hx.ins
    have e9 : (10 : Int) ^ (9 : Int).toNat = MAXL := by decide +kernel
    refine ⟨_, rfl, x, dx, _, rfl, ex, fmF_rep, _, rfl, _, rfl, _, rfl, ?_⟩
    dsimp only [tNil]
    refine ⟨x, fs, n, _, _, t, rfl, .inr (.inr ⟨_, rfl⟩), .inr (.inr ⟨_, rfl⟩), hx, ok, hm, ht, fun bad => absurd ⟨a, b, rfl, rfl, hab, hb⟩ bad, fun a' b' ea eb _ _ => ?_⟩
    injection ea with ea
    injection eb with eb
    have ea : a = a' := by omega
    have eb : b = b' := by omega
    subst ea; subst eb
    have hbig := ok.big
    have hmul : ∀ {N : VK} {H1 : Hp}, N (.int (((b : Int) - a) * ((t : Int) - 1))) H1 → rI CMul (fun i j => V.int (i * j)) (.int ((b : Int) - a)) (.int ((t : Int) - 1)) H1 N := fun h => ⟨_, _, rfl, rfl, .inr ⟨by omega, by omega⟩, h⟩
    refine ⟨fun gt d H1 s1 e1 => ?_, fun le => ⟨fun _ H1 y s1 hy => ?_, fun _ d H1 s1 => ?_⟩⟩
    · -- TooLong
      refine ⟨true, XT.ll, fun _ u hu => ?_, (fun h => by cases h)⟩
      refine ⟨_, rfl, fun hu' => ?_⟩
      have s2 : Same H1 (upd H1 u (xob u (.ref CL) (some d))) := Same.xob hu
      have ex2 := s2 _ _ (s1 _ _ ex)
      refine ⟨_, rfl, x, CF, dx, _, _, rfl, ex2, TF.cl, TF.nL, fmF_l, _, rfl, _, rfl, _, _, rfl, rfl, _, rfl, _, _, rfl, rfl, hmul ⟨_, _, rfl, rfl, ?_⟩⟩
      refine ⟨_, rfl, rfl, _, rfl, _, _, rfl, rfl, ⟨by decide, by decide, by decide⟩, _, _, rfl, rfl, rfl, _, rfl, ?_⟩
      refine iteL (fun _ => ?_) (bl_eq rfl (decide_eq_true (e9 ▸ gt)))
      refine ⟨_, rfl, rfl, _, rfl, ?_⟩
      refine ⟨_, rfl, u, d, _, _, rfl, TL'.xf, nf, upd_same, s2 _ _ e1, rfl, _, rfl, rfl, ?_⟩
      dsimp only
      rw [decide_eq_true rfl]
      exact q _ (s1.trans s2)
    · -- done
      have ex2 := s1 _ _ ex
      refine ⟨_, rfl, x, CF, dx, _, _, rfl, ex2, TF.cl, TF.nL, fmF_l, _, rfl, _, rfl, _, _, rfl, rfl, _, rfl, _, _, rfl, rfl, hmul ⟨_, _, rfl, rfl, ?_⟩⟩
      refine ⟨_, rfl, rfl, _, rfl, _, _, rfl, rfl, ⟨by decide, by decide, by decide⟩, _, _, rfl, rfl, rfl, _, rfl, ?_⟩
      refine iteL (fun _ => ?_) (bl_eq rfl (decide_eq_false (e9 ▸ Int.not_lt.mpr le)))
      exact ⟨_, rfl, rfl, _, rfl, q _ s1⟩
    · -- TooManyPieces
      refine ⟨false, XT.tl, (fun h => by cases h), fun _ => ⟨true, XT.tt, fun _ u hu => ?_, (fun h => by cases h)⟩⟩
      refine fun hu' => ?_
      have s2 : Same H1 (upd H1 u (xob u (.ref CT) (some d))) := Same.xob hu
      have ex2 := s2 _ _ (s1 _ _ ex)
      refine ⟨_, rfl, x, CF, dx, _, _, rfl, ex2, TF.cl, TF.nL, fmF_l, _, rfl, _, rfl, _, _, rfl, rfl, _, rfl, _, _, rfl, rfl, hmul ⟨_, _, rfl, rfl, ?_⟩⟩
      refine ⟨_, rfl, rfl, _, rfl, _, _, rfl, rfl, ⟨by decide, by decide, by decide⟩, _, _, rfl, rfl, rfl, _, rfl, ?_⟩
      refine iteL (fun _ => ?_) (bl_eq rfl (decide_eq_false (e9 ▸ Int.not_lt.mpr le)))
      exact ⟨_, rfl, rfl, _, rfl, q _ (s1.trans s2)⟩
end
end K24

/-! part LL -/
set_option Elab.async false
set_option linter.all false
set_option maxRecDepth 100000
set_option maxHeartbeats 4000000
namespace K24
open PySem PySem.Spec PyProof.Rows L2
/-- a lane that shows nothing -/
def noL (k : Nat) (l : Ln) : Ln := ⟨l.nm, l.ss, [.no k]⟩
theorem noL_nm {k : Nat} (ls : List Ln) : (ls.map (noL k)).map Ln.nm = ls.map Ln.nm := by
  rw [List.map_map]
  rfl
theorem noL_ss {k : Nat} (ls : List Ln) : (ls.map (noL k)).map Ln.ss = ls.map Ln.ss := by
  rw [List.map_map]
  rfl
theorem dens_no (k : Nat) : dens [.no (k : Int)] = List.replicate k none := by
  rw [dens_one]
  show List.replicate (k : Int).toNat none = _
  rw [Int.toNat_natCast]
theorem mm_no (k : Nat) : mm false (List.replicate k none) ≤ 1 := mm_rep k false
theorem noL_ok {ls : List Ln} {n k : Nat} (ok : LsOk ls n) (h1 : 1 ≤ k) (h2 : (k : Int) ≤ MAXL) : LsOk (ls.map (noL k)) k := by
  refine ⟨fun l' hl' => ?_, by rw [List.length_map]; exact ok.one, by rw [List.length_map]; exact ok.four, by rw [noL_nm]; exact ok.nd⟩
  obtain ⟨l, hl, rfl⟩ := List.mem_map.mp hl'
  have o := ok.all l hl
  refine ⟨o.nm, o.ss, fun p hp => ?_, by show 1 ≤ 100000; decide, ?_, h2, fun m hm => ?_, ?_⟩
  · rw [List.mem_singleton.mp hp]
    show 1 ≤ (k : Int)
    omega
  · show (dens [.no (k : Int)]).length = k
    rw [dens_no, List.length_replicate]
  · have hm : some m ∈ dens [.no (k : Int)] := hm
    rw [dens_no] at hm
    cases List.eq_of_mem_replicate hm
  · show mm false (dens [.no (k : Int)]) ≤ 100000
    rw [dens_no]
    have := mm_no k
    omega
theorem noL_mm {ls : List Ln} {k : Nat} : MmLe ((ls.map (noL k)).map Ln.fl) 1 := fun f hf => by
  obtain ⟨l', hl', rfl⟩ := List.mem_map.mp hf
  obtain ⟨l, hl, rfl⟩ := List.mem_map.mp hl'
  show mm false (dens [.no (k : Int)]) ≤ 1
  rw [dens_no]
  exact mm_no k
theorem fl_nm (ls : List Ln) : (ls.map Ln.fl).map Fl.nm = ls.map Ln.nm := by
  rw [List.map_map]
  rfl
theorem fl_ss (ls : List Ln) : (ls.map Ln.fl).map Fl.ss = ls.map Ln.ss := by
  rw [List.map_map]
  rfl
theorem fl_few {ls : List Ln} {k : Nat} (hk : k ≤ 60) (h : MmLe (ls.map Ln.fl) k) : ∀ l ∈ ls, Few (dens l.ps) := fun l hl => few_mm (by
  have := h _ (List.mem_map.mpr ⟨l, hl, rfl⟩)
  show mm false l.fl.L ≤ 60
  omega)
theorem fl_ok {ls : List Ln} {n k : Nat} (ok : LsOk ls n) (hk : k ≤ 10000) (h : MmLe (ls.map Ln.fl) k) : FsOk (ls.map Ln.fl) n := by
  refine ⟨fun f hf => ?_, by rw [List.length_map]; exact ok.one, by rw [List.length_map]; exact ok.four, by rw [fl_nm]; exact ok.nd⟩
  have h' := h f hf
  obtain ⟨l, hl, rfl⟩ := List.mem_map.mp hf
  have o := ok.all l hl
  exact ⟨o.nm, o.ss, o.len, o.big, o.inn, Nat.le_trans h' hk⟩
theorem fm_makeA {CE CF CT : Addr} {H1 : Hp} {Q : Addr → Hp → Prop} {E : XK} {a : Addr} {ls : List Ln} {n : Nat} (hL : LanesAt H1 a ls) (ok : LsOk ls n) (fw : ∀ l ∈ ls, Few (dens l.ps))
    (k : ∀ H' x, Same H1 H' → FilmAt CE CF H' x (ls.map Ln.fl) n → Q x H') : ∀ x dx, H1 x = none → H1 dx = none → dx ≠ x →
    spFilmInit CE CF CT (.ref x :: ([.ref a] ++ [])) (upd (upd H1 dx (.own x)) x (.ins CF dx [])) (fun v H2 => v = .non ∧ Q x H2) E := by
  intro x dx nx nd ne
  have s1 : Same H1 (upd (upd H1 dx (.own x)) x (.ins CF dx [])) := fun b o e => by
    rw [upd_ne (ne_of_none e nx), upd_ne (ne_of_none e nd)]
    exact e
  exact ⟨x, dx, a, ls, n, rfl, upd_same, hL.keep (.of s1), ok, fun _ H' kp fm => ⟨rfl, k H' x (fun b o e => kp b o (s1 b o e) (ne_of_none e nx)) fm⟩, fun nf d H' s2 => absurd fw nf⟩
theorem LaneX.keepD {D : Addr} {H H' : Hp} {r : Addr} {l : Ln} (s : SameD D H H') (h : LaneX D H r l) : LaneX D H' r l := by
  obtain ⟨sa, pa, h3, h4, h5, ⟨ra, h6, h7⟩, ⟨rb, h8, h9⟩⟩ := h
  exact ⟨sa, pa, h3, h4, s.tup h5, ⟨ra, s.ne h3 h6, Paired.mapP h7 fun _ _ z => s.tup z⟩, ⟨rb, s.ne h4 h8, Paired.mapP h9 fun _ _ z => s.tup z⟩⟩
theorem LaneAt.x {D : Addr} {H H' : Hp} {r : Addr} {l : Ln} (h : LaneAt H r l) (hD : H D = none) (s : Same H H') : LaneX D H' r l := by
  obtain ⟨sa, pa, h1, ⟨ra, h2, h2'⟩, ⟨rb, h3, h3'⟩⟩ := h
  exact ⟨sa, pa, ne_of_none h2 hD, ne_of_none h3 hD, s _ _ h1, ⟨ra, s _ _ h2, Paired.mapP h2' fun _ _ z => s _ _ z⟩, ⟨rb, s _ _ h3, Paired.mapP h3' fun _ _ z => s _ _ z⟩⟩
/-- a comprehension over lanes that makes lanes -/
theorem lc_lanes {K : PySem.W.Frag} (mk : Ln → Ln) {a : Addr} {rs : List Addr} {ls : List Ln} {g : TG} {te : TE} {vs : List Nat} {σ : L2.St} {H1 : Hp} {D : Addr} {Qd : Hp → Prop} (eL : H1 a = some (.lst (rs.map V.ref))) (hR : Paired (LaneAt H1) rs ls) (h4 : ls.length ≤ 4) (hD : H1 D = none)
    (hs : ∀ H acc r l, Same H1 H → H D = some (.lst acc) → LaneX D H r l → ∀ N : VK, (∀ r' H4, Same H H4 → LaneX D H4 r' (mk l) → N (.ref r') H4) → g (.ref r) (wipe σ vs) H fun σ2 H2 => wipe σ2 vs = wipe σ vs ∧ te σ2 H2 N)
    (hd : ∀ H, Same H1 H → LanesAt H D (ls.map mk) → Qd H) :
    ∃ W : Nat → Nat → Hp → Prop, (∃ m, W 0 m (upd H1 D (.lst []))) ∧ ∀ i m H, W i m H →
      ((Itl K a).stop i H ∧ Qd H) ∨ ((Itl K a).go i H ∧ ∃ Nx : Hp → Prop, (∀ H', Nx H' → ∃ m', m' < m ∧ W (i + 1) m' H') ∧ ∀ x H', (Itl K a).yld i H x H' → g x (wipe σ vs) H' fun σ2 H2 => wipe σ2 vs = wipe σ vs ∧ tYes σ2 H2 fun b H3 =>
        if b = true then te σ2 H3 fun y H4 => ∃ acc, H4 D = some (.lst acc) ∧ acc.length < sizeLine ∧ Nx (upd H4 D (.lst (acc ++ [y]))) else Nx H3) := by
  have hrl := Paired.length hR
  refine lc_rel (walk_list (K := K) (a := a) (xs := rs.map V.ref)) (fun i y H => ∃ r l, y = .ref r ∧ ls[i]? = some l ∧ LaneX D H r (mk l)) (fun i y H H' sd ⟨r, l, h1, h2, h3⟩ => ⟨r, l, h1, h2, h3.keepD sd⟩) hD (small_size (by simp; omega)) (fun H s => SqL.of (s _ _ eL)) ?_ ?_
  · rintro i y H H' acc hi s2 eD ⟨rfl, ey⟩ N hN
    obtain ⟨r, g1, rfl⟩ := map_get ey
    obtain ⟨l, g2, g3⟩ := paired_get hR g1
    exact hs _ acc r l s2 eD (g3.x hD s2) N fun r' H4 s4 hx => hN _ _ ⟨r', l, rfl, g2, hx⟩ s4
  · rintro H ys s2 eD hl hf
    obtain ⟨rs', e1, p⟩ := pair_refs (P := LaneAt H) (zs := ys) (ls := ls.map mk) (by simp at hl ⊢; omega) fun i z ez => by
      obtain ⟨r, l, h1, h2, h3⟩ := hf i z ez
      exact ⟨r, mk l, h1, by rw [List.getElem?_map, h2]; rfl, h3.lane⟩
    exact hd H s2 ⟨rs', by rw [eD, e1], p⟩
/-- the tuple (name, samples, [..]) of a new lane -/
theorem lane_new {D : Addr} {H H' H2 : Hp} {acc : List V} {sa l5 tv : Addr} {nm : Str} {ss : List Smp} {r5 : List Addr} {ps : List Pc} (s : Same H H') (eD : H D = some (.lst acc)) (nsa : sa ≠ D) (hs : TL smV H sa ss) (n5 : H' l5 = none) (hp : Tp pcV H' r5 ps)
    (nv : (upd H' l5 (.lst (r5.map V.ref))) tv = none) (e2 : upd (upd H' l5 (.lst (r5.map V.ref))) tv (.tup [.str nm, .ref sa, .ref l5]) = H2) : Same H H2 ∧ LaneX D H2 tv ⟨nm, ss, ps⟩ := by
  subst e2
  have s5 := Same.new (o := .lst (r5.map V.ref)) n5
  have sv := Same.new (o := .tup [.str nm, .ref sa, .ref l5]) nv
  refine ⟨(s.trans s5).trans sv, sa, l5, nsa, Ne.symm (ne_of_none (s _ _ eD) n5), upd_same, hs.keep (.of ((s.trans s5).trans sv)), ⟨r5, sv _ _ upd_same, Tp.keep (f := pcV) hp (.of (s5.trans sv))⟩⟩
end K24

/-! part LM -/
set_option Elab.async false
set_option linter.all false
set_option maxRecDepth 100000
set_option maxHeartbeats 4000000
namespace K24
open PySem PySem.Spec PyProof.Rows L2
def spPutIn (CE CF : Addr) : Sp := fun vs H Q _ => ∃ (x la : Addr) (fs : List Fl) (ls : List Ln) (n n' a m : Nat), vs = [.ref x, .ref la, .int a, .int m] ∧ FilmAt CE CF H x fs n ∧ FsOk fs n ∧ MmLe fs 22 ∧ LanesAt H la ls ∧ LsOk ls n' ∧ ls.map Ln.nm = fs.map Fl.nm ∧ ls.map Ln.ss = fs.map Fl.ss ∧ a ≤ n ∧ 2 < n ∧ n ≤ 300000000 ∧ m ≤ 2 ∧ ∀ H', Same H H' → Q (.bl true) H'
section
variable {P : Program} {w : World} {K : PySem.W.Frag} {mg : Str → Option Value} {base : Heap} {CE CF CS CL CT CM CO : Addr}
theorem sc__law_is_put_in : FnScope ["_law_film", "_law_lanes_here", "_law_at", "_law_more", "_law_many", "_law_other", "_law_caught", "error", "_law_name", "_law_samples_here", "_law_pieces_here"] ["_law_film", "_law_lanes_here", "_law_at", "_law_more"] (defScope (top 54)) := ⟨rfl, rfl, rfl, by decide +kernel, rfl, by decide +kernel, by decide +kernel⟩
theorem ok_law_is_put_in (T : Tx K mg) (TF : ClF K CF) (XT : ExmT K CS CM CO CL CT) (TL' : ExT K mg CL "TooLong") (nf : PySem.W.findIn K (.ref CL) "found" = some none) (D : Has K (dN "_law_is_put_in" 54)) (g : mg "_law_is_put_in" = some (.ref (He.fAd K ("_law_is_put_in", none))))
    (G_Film : OkN P w K mg base 9 CF "Film" ["self", "lanes"] (spFilmInit CE CF CT)) (G_put_in : OkM P w K mg base 12 CF "put_in" ["self", "moment", "other"] (spFmPut CE CF CM CO CL CT)) :
    OkG P w K mg base 13 "_law_is_put_in" ["_law_film", "_law_lanes_here", "_law_at", "_law_more"] (spPutIn CE CF) := by
  refine okG D g sc__law_is_put_in (fun _ _ _ _ _ _ us hl => match us, hl with | [_, _, _, _], _ => rfl) (fun vs H Q E h => ?_) (fun f cdv A outer s H vs Q E hr h => ?_)
  · obtain ⟨x, la, fs, ls, n, n', a, m, rfl, _⟩ := h
    rfl
  · obtain ⟨x, la, fs, ls, n, n', a, m, rfl, hx, ok, hm, ⟨rs, eL, hR⟩, lok, en, es, ha, hn, hn3, hm2, q⟩ := h
    refine ⟨_, PSs.nox (pss_cons (ps_set (i := 4) sc__law_is_put_in.nd rfl (Or.inr rfl) (pe_op op_add (pe_op op_sub (pe_op op_pow pe_int pe_int) (pe_fld (pv 0) rfl)) (pv 3)))
      (pss_cons (ps_par (i := 5) (j := 6) rfl sc__law_is_put_in.nd rfl rfl (by decide) rfl rfl (pa_cons (pe_nG G_Film (hr.mono (by decide)) rfl passL (pa_cons (pe_lc (own := [("_law_name", 8), ("_law_samples_here", 9), ("_law_pieces_here", 10)]) rfl sc__law_is_put_in.nd (pi_list (pv 1)) (blkOk_by (N := ["_law_film", "_law_lanes_here", "_law_at", "_law_more", "_law_many", "_law_other", "_law_caught", "error", "_law_name", "_law_samples_here", "_law_pieces_here"]) (sc := (defScope (top 54))) (by decide +kernel)) (fun _ _ _ _ _ => (pg_tupK (K := K) (n := 3) rfl (pgs_cons (pg_name (i := 8) sc__law_is_put_in.nd rfl (Or.inl rfl)) (pgs_cons (pg_name (i := 9) sc__law_is_put_in.nd rfl (Or.inl rfl)) (pgs_cons (pg_name (i := 10) sc__law_is_put_in.nd rfl (Or.inl rfl)) pgs_nil))))) (fun _ _ _ _ _ => pts_nil) (fun _ _ _ _ _ => (pe_tup (pa_cons (pv 8) (pa_cons (pv 9) (pa_cons (pe_lst (pa_cons (pe_tup (pa_cons pe_str (pa_cons (pv 4) pa_nil))) pa_nil)) pa_nil)))))) pa_nil)) (pa_cons pe_non pa_nil)) (by rfl))
      (pss_cons (ps_try_mix rfl rfl sc__law_is_put_in.nd rfl takes0 (fun W pn xe tk _ => pss_one (ps_expr (pe_mS (pv 0) G_put_in (hr.mono (by decide)) (fun σ => passAt tk σ) (pa_cons (pv 2) (pa_cons (pv 5) pa_nil)))))
        (.as (i := 7) ⟨rfl, by decide, .inl TL'.g⟩ rfl rfl (fun a oe cls d pn hz hf => pss_one (ps_set (i := 6) sc__law_is_put_in.nd rfl (Or.inl rfl) (pv 7))) .nil))
      (pss_one (ps_ret (pe_and (pe_cmpR op_eq (pe_cmpR op_notN (pv 6) pe_non (nomark _)) (pe_cmpR op_gt (pv 3) pe_int (nomark _)) (nomark _)) (pe_one (pe_or (pe_cmpR op_isN (pv 6) pe_non (nomark _)) (pe_one (pe_cmpR op_eq (pe_xo (C := CL) (pv 6) rfl) (pe_op op_add (pe_op op_pow pe_int pe_int) (pv 3)) (nomark _))))))))))), ?_⟩
    obtain ⟨dx, tn, dk0, de, ex⟩ := hx.ins
    have e9 : (10 : Int) ^ (9 : Int).toNat = 1000000000 := by decide +kernel
    have MX : MAXL = 1000000000 := rfl
    have lz : ∀ k : Nat, k ≤ 100000 → k ≤ sizeLine := fun k hk => by rw [sizeLine_eq]; omega
    obtain ⟨k, hk⟩ : ∃ k : Nat, (k : Int) = 1000000000 - (n : Int) + m := ⟨1000000000 - n + m, by omega⟩
    refine ⟨_, _, rfl, rfl, ⟨by decide, by decide, by decide⟩, _, rfl, x, CF, dx, _, _, rfl, ex, TF.cl, TF.nL, fmF_l, _, _, rfl, rfl, _, rfl, _, _, rfl, rfl, ?_⟩
    rw [e9]
    dsimp only
    rw [← hk]
    refine ⟨_, rfl, la, rfl, ⟨_, SqL.of eL⟩, fun Dd hD => ?_⟩
    refine lc_lanes (K := K) (noL k) eL hR lok.four hD ?_ ?_
    · rintro H2 acc r l s2 eD ⟨sa, pa, nsa, npa, w0, w1, w2⟩ N hN
      refine ⟨r, _, rfl, SqT.of w0, rfl, _, _, rfl, _, _, rfl, _, _, rfl, rfl, rfl, _, rfl, _, rfl, _, rfl, lz 2 (by decide), fun tu htu => ⟨lz 1 (by decide), fun l5 hl5 => ⟨lz 3 (by decide), fun tv htv => ?_⟩⟩⟩
      obtain ⟨z1, z2⟩ := lane_new (ps := [.no k]) (Same.new htu) eD nsa w1 hl5 (.cons upd_same .nil) htv rfl
      exact hN _ _ z1 z2
    · intro H2 s2 hL2
      have lk : LsOk (ls.map (noL k)) k := noL_ok lok (by omega) (by omega)
      refine fm_makeA (a := Dd) hL2 lk (fl_few (by decide) noL_mm) fun H3 y s3 hy => ?_
      dsimp only [tNil, tCons, tC]
      refine ⟨_, _, rfl, ?_⟩
      have hx3 := (hx.same s2).same s3
      have g2 : FsOk ((ls.map (noL k)).map Ln.fl) k := fl_ok lk (by decide) noL_mm
      have en2 : ((ls.map (noL k)).map Ln.fl).map Fl.nm = fs.map Fl.nm := by rw [fl_nm, noL_nm, en]
      have es2 : ((ls.map (noL k)).map Ln.fl).map Fl.ss = fs.map Fl.ss := by rw [fl_ss, noL_ss, es]
      have s23 := s2.trans s3
      refine ⟨_, rfl, x, dx, _, rfl, s23 _ _ ex, fmF_put, _, rfl, _, rfl, ?_⟩
      dsimp only [tNil]
      refine ⟨x, y, fs, _, n, k, _, rfl, .inr (.inr ⟨_, rfl⟩), hx3, hy, ok, g2, hm.mono (by decide), (noL_mm (ls := ls)).mono (by decide), fun bad => absurd ⟨a, rfl, ha⟩ bad, fun a' ea _ => ?_⟩
      injection ea with ea
      have ea : a = a' := by omega
      subst ea
      have due : (n : Int) + k = 1000000000 + m := by omega
      refine ⟨fun bad => absurd en2 bad, fun _ => ⟨es2, fun gt d H4 s4 e4 => ?_, fun le => ⟨fun _ H4 z s4 hz => ?_, fun bad => absurd (fun f' hf' => ?_) bad⟩⟩⟩
      · -- TooLong
        refine ⟨true, XT.ll, fun _ u hu => ?_, (fun h => by cases h)⟩
        refine ⟨_, rfl, fun hu' => ?_⟩
        have s5 : Same H4 (upd H4 u (xob u (.ref CL) (some d))) := Same.xob hu
        refine ⟨_, rfl, rfl, _, rfl, _, _, rfl, rfl, rfl, _, rfl, ?_⟩
        refine iteL (fun _ => ?_) (bl_eq rfl (decide_eq_true (show (0 : Int) < m by omega)))
        refine ⟨_, rfl, rfl, _, rfl, ?_⟩
        refine ⟨_, rfl, u, d, _, _, rfl, TL'.xf, nf, upd_same, s5 _ _ e4, rfl, _, _, rfl, rfl, ⟨by decide, by decide, by decide⟩, _, rfl, _, _, rfl, rfl, rfl, ?_⟩
        dsimp only
        rw [e9, due, decide_eq_true rfl]
        exact q _ ((s23.trans s4).trans s5)
      · -- done
        refine ⟨_, rfl, rfl, _, rfl, _, _, rfl, rfl, rfl, _, rfl, ?_⟩
        refine iteL (fun _ => ?_) (bl_eq rfl (decide_eq_false (show ¬ (0 : Int) < m by omega)))
        exact ⟨_, rfl, rfl, _, rfl, q _ (s23.trans s4)⟩
      · have := put_mm hm (noL_mm (ls := ls) (k := k)) f' hf'
        exact few_mm (by omega)
end
end K24

/-! part LN -/
set_option Elab.async false
set_option linter.all false
set_option maxRecDepth 100000
set_option maxHeartbeats 4000000
namespace K24
open PySem PySem.Spec PyProof.Rows L2
structure NfT (K : PySem.W.Frag) (CS CM CL CT : Addr) : Prop where
  s1 : PySem.W.findIn K (.ref CS) "first" = some none
  s2 : PySem.W.findIn K (.ref CS) "last" = some none
  m : PySem.W.findIn K (.ref CM) "moment" = some none
  l : PySem.W.findIn K (.ref CL) "found" = some none
  t : PySem.W.findIn K (.ref CT) "found" = some none
def spErr (CE CF : Addr) : Sp := fun vs H Q _ => ∃ (x : Addr) (fs : List Fl) (n : Nat) (p q o : V), vs = [.ref x, p, q, o] ∧ Sca p ∧ FilmAt CE CF H x fs n ∧ FsOk fs n ∧ MmLe fs 60 ∧
  ((o = .non ∧ Sca q ∧ ¬ strOk p q n ∧ ∀ H' l, Same H H' → H' l = some (.lst [.str "stretch", p, q]) → Q (.ref l) H') ∨
   ∃ (y : Addr) (gs : List Fl) (m : Nat), o = .ref y ∧ FilmAt CE CF H y gs m ∧ FsOk gs m ∧ MmLe gs 60 ∧
    ((¬ momOk p n ∧ ∀ H' l, Same H H' → H' l = some (.lst [.str "moment", p]) → Q (.ref l) H') ∨
     ∃ a : Nat, p = .int a ∧ a ≤ n ∧ ((¬ gs.map Fl.nm = fs.map Fl.nm ∧ ∀ H' l, Same H H' → H' l = some (.lst [.str "lanes"]) → Q (.ref l) H') ∨
       (gs.map Fl.nm = fs.map Fl.nm ∧ gs.map Fl.ss = fs.map Fl.ss ∧ MAXL < (n : Int) + m ∧ ∀ H' l, Same H H' → H' l = some (.lst [.str "long", .int ((n : Int) + m)]) → Q (.ref l) H'))))
section
variable {P : Program} {w : World} {K : PySem.W.Frag} {mg : Str → Option Value} {base : Heap} {CE CF CS CL CT CM CO : Addr}
theorem sc__law_error : FnScope ["_law_film", "_law_first", "_law_last", "_law_other", "_law_found", "error"] ["_law_film", "_law_first", "_law_last", "_law_other"] (defScope (top 56)) := ⟨rfl, rfl, rfl, by decide +kernel, rfl, by decide +kernel, by decide +kernel⟩
theorem ok_law_error (T : Tx K mg) (TF : ClF K CF) (XT : ExmT K CS CM CO CL CT) (TS : ExT K mg CS "BadStretch") (TM : ExT K mg CM "BadMoment") (TO : OlT K mg CO) (TL' : ExT K mg CL "TooLong") (TT' : ExT K mg CT "TooManyPieces") (nf : NfT K CS CM CL CT)
    (D : Has K (dN "_law_error" 56)) (g : mg "_law_error" = some (.ref (He.fAd K ("_law_error", none))))
    (G_repeat : OkM P w K mg base 12 CF "repeat" ["self", "first", "last", "times"] (spFmRep CE CF CS CL CT)) (G_put_in : OkM P w K mg base 12 CF "put_in" ["self", "moment", "other"] (spFmPut CE CF CM CO CL CT)) :
    OkG P w K mg base 13 "_law_error" ["_law_film", "_law_first", "_law_last", "_law_other"] (spErr CE CF) := by
  refine okG D g sc__law_error (fun _ _ _ _ _ _ us hl => match us, hl with | [_, _, _, _], _ => rfl) (fun vs H Q E h => ?_) (fun f cdv A outer s H vs Q E hr h => ?_)
  · obtain ⟨x, fs, n, p, q, o, rfl, _⟩ := h
    rfl
  · obtain ⟨x, fs, n, p, q, o, rfl, hp, hx, ok, hm, h⟩ := h
    refine ⟨_, PSs.nox (pss_cons (ps_set (i := 4) sc__law_error.nd rfl (Or.inl rfl) pe_non)
      (pss_cons (ps_try_mix rfl rfl sc__law_error.nd rfl takes0 (fun W pn xe tk _ => pss_one (ps_if (pt_cmpR op_isN (pv 3) pe_non (nomark _))
          (pss_one (ps_expr (pe_mS (pv 0) G_repeat (hr.mono (by decide)) (fun σ => passAt tk σ) (pa_cons (pv 1) (pa_cons (pv 2) (pa_cons pe_int pa_nil))))))
          (pss_one (ps_expr (pe_mS (pv 0) G_put_in (hr.mono (by decide)) (fun σ => passAt tk σ) (pa_cons (pv 1) (pa_cons (pv 3) pa_nil)))))))
        (.as (i := 5) ⟨rfl, by decide, .inl TS.g⟩ rfl rfl (fun a oe cls d pn hz hf => pss_one (ps_set (i := 4) sc__law_error.nd rfl (Or.inl rfl) (pe_lst (pa_cons pe_str (pa_cons (pe_xf TS.xf nf.s1 hz hf (pv 5)) (pa_cons (pe_xf TS.xf nf.s2 hz hf (pv 5)) pa_nil))))))
        (.as (i := 5) ⟨rfl, by decide, .inl TM.g⟩ rfl rfl (fun a oe cls d pn hz hf => pss_one (ps_set (i := 4) sc__law_error.nd rfl (Or.inl rfl) (pe_lst (pa_cons pe_str (pa_cons (pe_xf TM.xf nf.m hz hf (pv 5)) pa_nil)))))
        (.plain ⟨rfl, by decide, .inl TO.g⟩ (fun a oe cls d pn hz hf => pss_one (ps_set (i := 4) sc__law_error.nd rfl (Or.inl rfl) (pe_lst (pa_cons pe_str pa_nil))))
        (.as (i := 5) ⟨rfl, by decide, .inl TL'.g⟩ rfl rfl (fun a oe cls d pn hz hf => pss_one (ps_set (i := 4) sc__law_error.nd rfl (Or.inl rfl) (pe_lst (pa_cons pe_str (pa_cons (pe_xf TL'.xf nf.l hz hf (pv 5)) pa_nil)))))
        (.as (i := 5) ⟨rfl, by decide, .inl TT'.g⟩ rfl rfl (fun a oe cls d pn hz hf => pss_one (ps_set (i := 4) sc__law_error.nd rfl (Or.inl rfl) (pe_lst (pa_cons pe_str (pa_cons (pe_xf TT'.xf nf.t hz hf (pv 5)) pa_nil))))) .nil))))))
      (pss_one (ps_ret (pv 4))))), ?_⟩
    obtain ⟨dx, tn, dk0, de, ex⟩ := hx.ins
    have lz : ∀ k : Nat, k ≤ 100000 → k ≤ sizeLine := fun k hk => by rw [sizeLine_eq]; omega
    rcases h with ⟨rfl, hq, bad, k⟩ | ⟨y, gs, m, rfl, hy, ok', hm', h⟩
    · refine ⟨_, rfl, rfl, _, rfl, ?_⟩
      refine iteL (fun _ => ?_) (decide_eq_true rfl)
      refine ⟨_, rfl, x, dx, _, rfl, ex, fmF_rep, _, rfl, _, rfl, ?_⟩
      dsimp only [tNil]
      refine ⟨x, fs, n, _, _, 100, rfl, hp, hq, hx, ok, hm, by decide, fun _ d H4 s4 e4 => ?_, fun a b ea eb hab hb => absurd ⟨a, b, ea, eb, hab, hb⟩ bad⟩
      refine ⟨true, XT.ss, fun _ u hu => ?_, (fun h => by cases h)⟩
      refine ⟨_, rfl, rfl, rfl, d, _, _, rfl, e4, rfl, _, rfl, rfl, rfl, d, _, _, rfl, e4, rfl, lz 3 (by decide), fun l5 hl5 => fun hu' => ?_⟩
      refine ⟨_, rfl, k _ l5 ((s4.trans (Same.new hl5)).trans (Same.xob hu')) (Same.xob hu' _ _ upd_same)⟩
    · have hb2 := ok.big
      refine ⟨_, rfl, rfl, _, rfl, ?_⟩
      refine ite2 (fun bad => absurd (of_decide_eq_true bad) (fun z => nomatch z)) (fun _ => ?_)
      refine ⟨_, rfl, x, dx, _, rfl, ex, fmF_put, _, rfl, _, rfl, ?_⟩
      dsimp only [tNil]
      refine ⟨x, y, fs, gs, n, m, _, rfl, hp, hx, hy, ok, ok', hm, hm', fun bad d H4 s4 e4 => ?_, fun a' ea ha => ?_⟩
      · rcases h with ⟨_, k⟩ | ⟨a, rfl, ha, _⟩
        · refine ⟨false, XT.ms, (fun h => by cases h), fun _ => ⟨true, XT.mm, fun _ u hu => ?_, (fun h => by cases h)⟩⟩
          refine ⟨_, rfl, rfl, rfl, d, _, _, rfl, e4, rfl, lz 2 (by decide), fun l5 hl5 => fun hu' => ?_⟩
          exact ⟨_, rfl, k _ l5 ((s4.trans (Same.new hl5)).trans (Same.xob hu')) (Same.xob hu' _ _ upd_same)⟩
        · exact absurd ⟨a, rfl, ha⟩ bad
      · rcases h with ⟨bad, _⟩ | ⟨a, rfl, _, h⟩
        · exact absurd ⟨a', ea, ha⟩ bad
        · rcases h with ⟨ne, k⟩ | ⟨en, es, big, k⟩
          · refine ⟨fun _ H4 s4 => ?_, fun en => absurd en ne⟩
            refine ⟨false, XT.os, (fun h => by cases h), fun _ => ⟨false, XT.om, (fun h => by cases h), fun _ => ⟨true, XT.oo, fun _ u hu => ?_, (fun h => by cases h)⟩⟩⟩
            refine ⟨lz 1 (by decide), fun l5 hl5 => ?_⟩
            exact ⟨_, rfl, k _ l5 (s4.trans (Same.new hl5)) upd_same⟩
          · refine ⟨fun ne => absurd en ne, fun _ => ⟨es, fun _ d H4 s4 e4 => ?_, fun le => absurd big (by omega)⟩⟩
            refine ⟨false, XT.ls, (fun h => by cases h), fun _ => ⟨false, XT.lm, (fun h => by cases h), fun _ => ⟨false, XT.lo, (fun h => by cases h), fun _ => ⟨true, XT.ll, fun _ u hu => ?_, (fun h => by cases h)⟩⟩⟩⟩
            refine ⟨_, rfl, rfl, rfl, d, _, _, rfl, e4, rfl, lz 2 (by decide), fun l5 hl5 => fun hu' => ?_⟩
            exact ⟨_, rfl, k _ l5 ((s4.trans (Same.new hl5)).trans (Same.xob hu')) (Same.xob hu' _ _ upd_same)⟩
end
end K24

/-! part GQ -/
set_option Elab.async false
set_option linter.all false
set_option maxRecDepth 100000
set_option maxHeartbeats 4000000
/-! promises of defs that are called while no repr is under way -/
namespace K24
open PySem PySem.Spec PyProof.Rows L2
structure FnQ (P : Program) (w : World) (K : PySem.W.Frag) (mg : Str → Option Value) (base : Heap) (k : Nat) (f : Addr) (fd : FuncData) (ps : List Str) (sp : Sp) : Prop where
  len : ∀ vs H Q E, sp vs H Q E → vs.length = ps.length
  run : ∀ (A : Around) (outer : List Env) (s : Shared) (H : Hp) (args : Args) (us : List Value) (vs : List V) (Q : VK) (E : XK), A.guards = some [] → Room k A →
    Env0 P w K mg base A outer s H → BindsTo s fd args (ps.zip us) → Vals vs us → sp vs H Q E → codeAny (model P w) A (.call (.ref f) args) (CR (L2.CX P w) outer P w H s Q E) s
structure OkQ (P : Program) (w : World) (K : PySem.W.Frag) (mg : Str → Option Value) (base : Heap) (k : Nat) (x : Str) (ps : List Str) (sp : Sp) : Prop where
  ex : ∃ f fd, FnQ P w K mg base k f fd ps sp ∧ Binds K fd ps [] ∧ PySem.W.keepIn K (.ref f) = true ∧ mg x = some (.ref f) ∧ ∃ oc od osl, K.lookup f = some ⟨oc, od, .func fd, osl⟩
section
variable {P : Program} {w : World} {K : PySem.W.Frag} {mg : Str → Option Value} {base : Heap}
theorem fnQ_of {k : Nat} {f : Addr} {name qual : Str} {params : Arguments} {body : List Stmt} {scope : Scope} {dV kV doc pm cdv ct oc : Value} {an od : Option Addr} {osl : Array (Option Value)} {N ps : List Str} {sp : Sp}
    (lk : K.lookup f = some ⟨oc, od, .func (PySem.W.fnOf name qual params body scope dV kV doc pm an cdv ct), osl⟩) (cd : PySem.W.codeIn K cdv qual = true) (S : FnScope N ps scope) (ln : ∀ vs H Q E, sp vs H Q E → vs.length = ps.length)
    (bd : ∀ (A : Around) (outer : List Env) (s : Shared) (H : Hp) (vs : List V) (Q : VK) (E : XK), A.guards = some [] → Room k (A.deeper (envOfC qual scope s.heap.objs.size f cdv)) → sp vs H Q E →
      ∃ t, PSs (cxOf (L2.CX P w) P w K mg base N qual scope f cdv A outer s H E) body t ∧ t { nx := fun _ H' => Q .non H', rt := Q } (start N vs) H) :
    FnQ P w K mg base (k + 1) f (PySem.W.fnOf name qual params body scope dV kV doc pm an cdv ct) ps sp := by
  constructor
  · exact ln
  · intro A outer s H args us vs Q E gA room e0 binds rel want
    have kin := e0.mod.kin.keeps fun b o e => (e0.bs b o e).1
    have noLim := e0.mod.nolimit.keeps fun b o e => (e0.bs b o e).1
    refine codeAny_call_function room.depth (kin _ _ lk) rfl S.co S.gen rfl (PySem.W.codeRec_of kin cd) (binds _ _ _ _ ?_)
    refine wpAny_newFunctionEnv_cells S.kind (fun q hq => (S.par q.1 (List.of_mem_zip (show (q.1, q.2) ∈ _ from hq)).1).imp id fun z => ⟨z, PySem.W.cellsFrom_some _ _ _ (.inl z)⟩) fun env henv s1 fresh => ?_
    cases henv
    obtain ⟨t, run, post⟩ := bd A outer s H vs Q E gA (room.deeper _) want
    refine ⟨noLim.keeps fresh.toInCall.keep, codeAny_func (wpAny_mono (run.run [] s1 (start N vs) H _ (inv_start S room.hd e0 (ln _ _ _ _ want) rel fresh) post) ?_ fun _ _ z => z)⟩
    rintro (_ | _ | _ | u) s' hs
    · obtain ⟨σ', H', J, q⟩ := hs
      exact ⟨V.non, H', J.os, J.bare, J.base, J.hok, rfl, q⟩
    · obtain ⟨_, _, _, no⟩ := hs
      exact no.elim
    · obtain ⟨_, _, _, no⟩ := hs
      exact no.elim
    · obtain ⟨v, σ', H', J, rv, q⟩ := hs
      exact ⟨v, H', J.os, J.bare, J.base, J.hok, rv, q⟩
theorem okQ {d : He.DefD} {x : Str} {N ps : List Str} {k : Nat} {sp : Sp} (D : Has K d) (g : mg x = some (.ref (He.fAd K d.at_))) (S : FnScope N ps d.scope)
    (hb : ∀ (kV doc pm : Value) (an : Option Addr) (cdv ct : Value) (us : List Value), us.length = ps.length → bindArgs (PySem.W.fnOf d.name d.qual d.params d.body d.scope .none kV doc pm an cdv ct) ⟨us, []⟩ = pure (ps.zip us))
    (len : ∀ vs H Q E, sp vs H Q E → vs.length = ps.length)
    (bd : ∀ (f : Addr) (cdv : Value) (A : Around) (outer : List Env) (s : Shared) (H : Hp) (vs : List V) (Q : VK) (E : XK), A.guards = some [] → Room k (A.deeper (envOfC d.qual d.scope s.heap.objs.size f cdv)) → sp vs H Q E →
      ∃ t, PSs (cxOf (L2.CX P w) P w K mg base N d.qual d.scope f cdv A outer s H E) d.body t ∧ t { nx := fun _ H' => Q .non H', rt := Q } (start N vs) H) : OkQ P w K mg base (k + 1) x ps sp := by
  obtain ⟨fd, F⟩ := D
  have b := F.bindsN hb
  obtain ⟨oc, od, dV, kV, doc, pm, an, cdv, ct, osl, rfl, lk, hcd, _, _⟩ := F.ex
  exact ⟨_, _, fnQ_of lk hcd S len fun A outer s H vs Q E gA hr hsp => bd _ cdv A outer s H vs Q E gA hr hsp, b, F.kp, g, _, _, _, lk⟩
end
section
variable {X : Cx} {k : Nat} {x : Str} {ps : List Str} {sp : Sp} {E : XK} {e : Expr} {es : List Expr} {p pos : Pos} {t : TA}
theorem pe_cQ (G : OkQ X.prog X.w X.K X.mg X.base k x ps sp) (gA : X.A.guards = some []) (hr : Room k X.A) (hg : Gl X x) (hx : Passes (L2.CX X.prog X.w) X E) (ha : PA X (e :: es) t)
    (hdb : (x == ("__debug__" : Str)) = false := by decide) (he : starEach (e :: es) X.env = (false, eval e X.env) :: starEach es X.env := by rfl)
    (hpl : (backTo pos (starEach es X.env)).any (·.1) = false := by rfl) : PE X (.Call (.Name x p) (e :: es) [] pos) (tCall sp [] E t) := by
  obtain ⟨f, fd, F, b, kp, hm, _⟩ := G.ex
  constructor
  intro pins s σ H Q I want
  refine wpAny_Call_Name_kw (ld_glob I hg hm (PySem.W.callWith_K (h₀ := X.base) I.ok.mod.kin kp (thn (ha.run pos pins s σ H _ I want) ?_) he hpl) hdb)
  rintro us s1 ⟨vs, H1, I1, rel, q⟩
  have q' : sp vs H1 Q E := by rw [List.append_nil] at q; exact q
  have hl := F.len _ _ _ _ q'
  have bt := b s1 us I1.kIn (by rw [List.append_nil, ← rel.length]; exact hl)
  rw [List.append_nil] at bt
  refine ⟨I1.kIn, wpAny_call (codeAny_mono (F.run X.A X.stack s1 H1 ⟨us, []⟩ us vs Q E gA hr I1.env0 bt rel q') ?_)⟩
  rintro (er | (_ | _ | _ | u)) s' hq
  · exact hx pins σ H1 s1 er s' I1 hq
  · exact False.elim hq
  · exact False.elim hq
  · exact False.elim hq
  · exact I1.after hq
/-- repr of data: of a list or a tuple, none under way -/
def rRepr (K : PySem.W.Frag) : List V → Hp → VK → Prop := fun xs H Q => ∃ (a : Addr) (d : PyData), xs = [.ref a] ∧ Dp K H (.ref a) d ∧ PyData.showable d = true ∧ PyData.hasDict d = false ∧ PyData.depth d ≤ 10 ∧ (PyData.shown d).length ≤ sizeLine ∧ Q (.str (PyData.shown d)) H
theorem call_repr (gA : X.A.guards = some []) (hu : X.A.units + 64 < cLine) : CallR X (.builtin "repr") (rRepr X.K) := by
  intro pins s σ H xs us Q I rel want
  obtain ⟨a, d, rfl, hd, h1, h2, h3, h4, q⟩ := want
  obtain ⟨u, rfl, ru⟩ := vals1 rel
  obtain ⟨as, r1⟩ := Dp.reads I d (.ref a) u hd ru
  obtain rfl : u = Value.ref a := ru
  exact repr_of_reads' r1 h1 (PyData.noDict_hsm h2) gA (by omega) (fun _ _ z => z) (fun h' u tk hk => ⟨.str _, H, I.un (Un.kept hk) (I.hok.kept hk), ⟨_, rfl⟩, q⟩) h4
end
end K24

/-! part GE -/
set_option Elab.async false
set_option linter.all false
set_option maxRecDepth 100000
set_option maxHeartbeats 4000000
/-! the law's end, of a promise that may use that no repr is under way -/
namespace K24
open PySem PySem.Spec PyProof.Rows L2
section
variable {P : Program} {w : World} {K : PySem.W.Frag} {mg mb : Str → Option Value} {k : Nat} {fa a : Addr} {fd : FuncData} {x : Str} {sp : Sp} {s1 : Shared} {vs : List Value} {ns : List Int}
/-- from one abstract heap, in which the script alone may be tracked -/
theorem law_from (H : Hp) (only : Only H) (sq : SqL K H a (ns.map V.int)) (hok : HOk P w H s1.heap) (hA : ∀ b, H b ≠ none → b = a) (hK : H a ≠ none → K.lookup a = none)
    (KX : K.In s1.heap) (g1 : s1.heap.Ns mainGlobals mg) (b1 : s1.heap.Ns builtinsNs mb) (b2 : ∀ x : Str, x ≠ "__name__" → mb x = bootBuiltins x) (lim : s1.heap.NoLimit) (gn : s1.gens = #[])
    (ha : s1.heap.get? a = some { cls := .type "list", data := .seq vs.toArray }) (room : Room k callerA) (F : ∀ base : Heap, K.In base → base.Ns mainGlobals mg → FnQ P w K mg base k fa fd [x] sp)
    (bind : ∀ (s : Shared) (u : Value), K.In s.heap → BindsTo s fd ⟨[u], []⟩ [(x, u)]) (want : sp [.ref a] H (fun v _ => v = .bl true) fun _ _ _ => False)
    (noX : ∀ H e s', L2.CX P w [] H s1 (fun _ _ _ => False) e s' → False) :
    codeAny (model P w) callerA (.call (.ref fa) ⟨[.ref a], []⟩) (fun r s' => r = .ok (.ret (.bool true)) ∧ OldK s1.heap s'.heap ∧ s'.os = s1.os ∧ AllBare s'.gens) s1 := by
  have isA : ∀ {b : Addr} {u : HO}, H b = some u → b = a := fun {b u} q => hA b (by rw [q]; exact fun z => nomatch z)
  have keepB : ∀ {b : Addr} {o : Obj}, s1.heap.get? b = some o → H b = none → (hidT s1.heap H).get? b = some o := fun q n => hidT_get q n
  have freeD : ∀ {b : Addr} {o : Obj} {es : Array DictEntry} {n : Nat}, s1.heap.get? b = some o → o.data = .dict es n → H b = none := by
    intro b o es n q d
    cases z : H b with
    | none => rfl
    | some u =>
      rw [isA z, ha] at q
      cases q
      have d' : Data.seq vs.toArray _ = Data.dict es n := d
      cases d'
  have nsB : ∀ {b : Addr} {m : Str → Option Value}, s1.heap.Ns b m → (hidT s1.heap H).Ns b m := by
    rintro b m ⟨o, es, n, q, d, r⟩
    exact ⟨o, es, n, keepB q (freeD q d), d, r⟩
  have kB : K.In (hidT s1.heap H) := by
    intro b o q
    refine keepB (KX b o q) ?_
    cases z : H b with
    | none => rfl
    | some u =>
      have e := isA z
      subst e
      rw [hK (by rw [z]; exact fun y => nomatch y)] at q
      cases q
  obtain ⟨mc, c1, c2⟩ := lim
  have e0 : Env0 P w K mg (hidT s1.heap H) callerA [] s1 H :=
    { frames := rfl, mod := ⟨kB, nsB g1, ⟨mb, nsB b1, b2⟩, mc, nsB c1, c2⟩, bs := fun b o q => of_hidT q, bsz := Nat.le_of_eq (hidT_size _ _), funs := trivial
      frf := fun b q => absurd (show b ∈ ([] : List Addr) from q) List.not_mem_nil, hok := hok, bare := .of_eq gn }
  refine codeAny_mono ((F _ kB (nsB g1)).run callerA [] s1 H ⟨[.ref a], []⟩ [.ref a] [.ref a] _ _ rfl room e0 (bind s1 (.ref a) KX) (.cons rfl .nil) want) ?_
  rintro (e | (_ | _ | _ | u)) s' h
  · exact (noX H e s' h).elim
  · exact False.elim h
  · exact False.elim h
  · exact False.elim h
  · obtain ⟨v, H', os, bare, un, hok', rel, q⟩ := h
    obtain rfl : v = .bl true := q
    obtain rfl : u = Value.bool true := rel
    refine ⟨rfl, OldK.of_keep ?_, os, bare⟩
    intro b o q
    cases z : H b with
    | none => exact un.keep b o q z (show b ∉ ([] : List Addr) from List.not_mem_nil) List.not_mem_nil
    | some y =>
      obtain z0 | ⟨ob, xs, z1⟩ := only b
      · rw [z] at z0
        cases z0
      · obtain ⟨w1, _⟩ := hok b _ z1
        obtain ⟨w2, _⟩ := hok' b _ (un.frzs b ob _ z1)
        rw [q] at w1
        cases w1
        exact w2
theorem law_callQ (KX : K.In s1.heap) (g1 : s1.heap.Ns mainGlobals mg) (b1 : s1.heap.Ns builtinsNs mb) (b2 : ∀ x : Str, x ≠ "__name__" → mb x = bootBuiltins x) (lim : s1.heap.NoLimit) (gn : s1.gens = #[])
    (ha : s1.heap.get? a = some { cls := .type "list", data := .seq vs.toArray }) (hi : IntsAre vs ns) (hl : ns.length ≤ sizeLine) (room : Room k callerA) (F : ∀ base : Heap, K.In base → base.Ns mainGlobals mg → FnQ P w K mg base k fa fd [x] sp)
    (bind : ∀ (s : Shared) (u : Value), K.In s.heap → BindsTo s fd ⟨[u], []⟩ [(x, u)]) (want : ∀ H : Hp, Only H → SqL K H a (ns.map V.int) → sp [.ref a] H (fun v _ => v = .bl true) fun _ _ _ => False)
    (noX : ∀ H e s', L2.CX P w [] H s1 (fun _ _ _ => False) e s' → False) :
    codeAny (model P w) callerA (.call (.ref fa) ⟨[.ref a], []⟩) (fun r s' => r = .ok (.ret (.bool true)) ∧ OldK s1.heap s'.heap ∧ s'.os = s1.os ∧ AllBare s'.gens) s1 := by
  have rel := vals_ints hi
  cases lk : K.lookup a with
  | some o =>
    have q := KX a o lk
    rw [ha] at q
    cases q
    have sq : SqL K (fun _ => none) a (ns.map V.int) := .inr ⟨_, vs.toArray, _, lk, rfl, rfl, rfl, by rw [List.size_toArray, hi.length]; exact hl, by simpa using rel⟩
    have only : Only (fun _ => none) := fun _ => .inl rfl
    exact law_from (fun _ => none) only sq (fun b u z => nomatch (show (none : Option HO) = some u from z)) (fun b z => absurd rfl z) (fun z => absurd rfl z) KX g1 b1 b2 lim gn ha room F bind (want _ only sq) noX
  | none =>
    let Hs : Hp := fun b => if b = a then some (.frz { cls := .type "list", data := .seq vs.toArray } (.lst (ns.map V.int))) else none
    have at_a : Hs a = some (.frz { cls := .type "list", data := .seq vs.toArray } (.lst (ns.map V.int))) := if_pos rfl
    have off : ∀ {b : Addr}, b ≠ a → Hs b = none := fun n => if_neg n
    have only : Only Hs := fun b => by
      by_cases e : b = a
      · exact .inr ⟨_, _, if_pos e⟩
      · exact .inl (off e)
    have sq : SqL K Hs a (ns.map V.int) := .inl (.inr ⟨_, at_a⟩)
    refine law_from Hs only sq (fun b u z => ?_) (fun b z => ?_) (fun _ => lk) KX g1 b1 b2 lim gn ha room F bind (want _ only sq) noX
    · by_cases e : b = a
      · subst e
        rw [at_a] at z
        cases z
        exact ⟨ha, by rw [List.length_map]; exact hl, vs, _, rel, ha⟩
      · rw [off e] at z
        cases z
    · by_cases e : b = a
      · exact e
      · exact absurd (off e) z
end
theorem walk_ofQ {l : PySem.W.OpenLaw} {n k : Nat} {q : Program} {loose : List Str} {XP : (Str → Option Value) → Heap → Prop} {YP : World → Heap → Prop} {d : DefRec} {x : Str} (most : l.most = some n) (small : n ≤ sizeLine) (plain : d.params.defaults = []) (room : Room k callerA)
    (F : ∀ (w : World) (mg : Str → Option Value) (fa : Addr) (h : Heap), YP w h → h.Ns mainGlobals mg → mg d.name = some (.ref fa) →
      ∃ (K : PySem.W.Frag) (fd : FuncData) (sp : Sp), K.In h ∧ (∀ (s : Shared) (u : Value), K.In s.heap → BindsTo s fd ⟨[u], []⟩ [(x, u)]) ∧
        (∀ (H : Hp) (a : Addr) (ns : List Int), ns.length ≤ n → Only H → SqL K H a (ns.map V.int) → sp [.ref a] H (fun v _ => v = .bl true) fun _ _ _ => False) ∧
        ∀ base : Heap, K.In base → base.Ns mainGlobals mg → FnQ l.prog w K mg base k fa fd [x] sp)
    (noX : ∀ (w : World) (H : Hp) (s : Shared) (e : Value) (s' : Shared), L2.CX l.prog w [] H s (fun _ _ _ => False) e s' → False) : PySem.W.WalkO q loose XP YP l.row.toRowW d [] (fun f vs => PySem.call f vs) := by
  refine Att.attach_call most plain ?_
  intro w s0 s1 mg mb fa o pm cd doc a vs ns G Y ho hd hcd hmg obj hnum len gens
  obtain ⟨K, fd, sp, KX, bind, want, promise⟩ := F w mg fa _ Y G.T.g hmg
  exact law_callQ KX G.T.g G.T.b G.T.builtins G.T.nolimit gens obj hnum (Nat.le_trans len small) room promise bind (fun H only sq => want H a ns len only sq) fun H e s' => noX w H s1 e s'
end K24

/-! part LO -/
set_option Elab.async false
set_option linter.all false
set_option maxRecDepth 100000
set_option maxHeartbeats 4000000
namespace K24
open PySem PySem.Spec PyProof.Rows L2
/-! ### texts of data -/
def scaD : V → PyData
  | .bl b => .bool b
  | .int i => .int i
  | .str x => .str x
  | _ => .none
structure SmallV (v : V) : Prop where
  sca : Sca v
  int : ∀ i, v = .int i → i.natAbs.log2 < 1920
theorem small_non : SmallV .non := ⟨.inl rfl, fun _ e => nomatch e⟩
theorem small_bl (b : Bool) : SmallV (.bl b) := ⟨.inr (.inl ⟨b, rfl⟩), fun _ e => nomatch e⟩
theorem small_int {i : Int} (h : i.natAbs < 2 ^ 1000) : SmallV (.int i) := ⟨.inr (.inr ⟨i, rfl⟩), fun j e => by
  injection e with e
  subst e
  by_cases z : i.natAbs = 0
  · rw [z]
    decide +kernel
  · have := (Nat.log2_lt z).mpr h
    omega⟩
theorem lt_big {k : Nat} (h : k ≤ 10 ^ 30) : k < 2 ^ 1000 := Nat.lt_of_le_of_lt h (by decide +kernel)
theorem SmallV.dp {K : PySem.W.Frag} {H : Hp} {v : V} (h : SmallV v) : Dp K H v (scaD v) := by
  rcases h.sca with rfl | ⟨b, rfl⟩ | ⟨i, rfl⟩
  · exact .non
  · exact .bl b
  · exact .int i
theorem SmallV.props {v : V} (h : SmallV v) : PyData.showable (scaD v) = true ∧ PyData.hasDict (scaD v) = false ∧ PyData.depth (scaD v) = 0 ∧ (PyData.shown (scaD v)).length ≤ 1921 ∧ PyData.canLay0 (scaD v) = true := by
  have q := h.int
  rcases h.sca with rfl | ⟨b, rfl⟩ | ⟨i, rfl⟩
  · exact ⟨rfl, rfl, rfl, by show (("None" : Str)).length ≤ 1921; decide +kernel, rfl⟩
  · refine ⟨rfl, rfl, rfl, ?_, rfl⟩
    cases b
    · show (("False" : Str)).length ≤ 1921
      decide +kernel
    · show (("True" : Str)).length ≤ 1921
      decide +kernel
  · have z := q i rfl
    exact ⟨decide_eq_true z, rfl, rfl, int_text_len_1921 z, rfl⟩
theorem textFrom_le : ∀ (ts : List Str) (k : Nat) (acc : Str) (m : Nat), (∀ t ∈ ts, t.length ≤ m) → (textFrom k acc ts).length ≤ acc.length + ts.length * (m + 2)
  | [], k, acc, m, _ => by
    show acc.length ≤ _
    omega
  | t :: ts, k, acc, m, h => by
    have ih := textFrom_le ts (k + 1) (acc ++ (if k > 0 then ", " else "" : String) ++ t) m fun x hx => h x (List.mem_cons_of_mem _ hx)
    have ht := h t List.mem_cons_self
    have e : (acc ++ (if k > 0 then ", " else "" : String) ++ t).length ≤ acc.length + 2 + t.length := by
      rw [strLen_append, strLen_append]
      have : (((if k > 0 then ", " else "" : String) : Str)).length ≤ 2 := by split <;> decide +kernel
      omega
    show (textFrom (k + 1) (acc ++ (if k > 0 then ", " else "" : String) ++ t) ts).length ≤ _
    have e2 : (t :: ts).length * (m + 2) = ts.length * (m + 2) + (m + 2) := by rw [List.length_cons, Nat.succ_mul]
    omega
theorem listText_le {ts : List Str} {m : Nat} (h : ∀ t ∈ ts, t.length ≤ m) : (listText ts).length ≤ ts.length * (m + 2) + 2 := by
  unfold listText
  rw [strLen_append]
  have h1 := textFrom_le ts 0 "[" m h
  have e1 : (("[" : String) : Str).length = 1 := rfl
  have e2 : (("]" : String) : Str).length = 1 := rfl
  omega
/-- a list of a text and of small values -/
def errD (x : Str) (vs : List V) : PyData := .list (.str x :: vs.map scaD)
theorem errD_dp {K : PySem.W.Frag} {H : Hp} {l : Addr} {x : Str} : ∀ {vs : List V}, (∀ v ∈ vs, SmallV v) → H l = some (.lst (.str x :: vs)) → Dp K H (.ref l) (errD x vs) := by
  intro vs hv e
  have all : ∀ us : List V, (∀ v ∈ us, SmallV v) → DpAll K H us (us.map scaD) := by
    intro us
    induction us with
    | nil => exact fun _ => .nil
    | cons u us ih => exact fun h => .cons (h u List.mem_cons_self).dp (ih fun v hv => h v (List.mem_cons_of_mem _ hv))
  exact .lst (SqL.of e) (.cons (.str x) (all vs hv))
theorem errD_all : ∀ {vs : List V}, (∀ v ∈ vs, SmallV v) → PyData.showableAll (vs.map scaD) = true ∧ PyData.hasDictAll (vs.map scaD) = false ∧ PyData.depthAll (vs.map scaD) = 0 ∧ (∀ t ∈ PyData.shownAll (vs.map scaD), t.length ≤ 1921) ∧ (PyData.shownAll (vs.map scaD)).length = vs.length ∧ PyData.canLayAll0 (vs.map scaD) = true
  | [], _ => by
    refine ⟨rfl, rfl, rfl, fun t h => ?_, rfl, rfl⟩
    have h : t ∈ ([] : List Str) := h
    cases h
  | v :: vs, h => by
    obtain ⟨a1, a2, a3, a4, a5, a6⟩ := errD_all (vs := vs) fun u hu => h u (List.mem_cons_of_mem _ hu)
    obtain ⟨b1, b2, b3, b4, b6⟩ := (h v List.mem_cons_self).props
    refine ⟨?_, ?_, ?_, ?_, ?_, ?_⟩
    · show (PyData.showable (scaD v) && PyData.showableAll (vs.map scaD)) = true
      rw [a1, b1]
      rfl
    · show (PyData.hasDict (scaD v) || PyData.hasDictAll (vs.map scaD)) = false
      rw [a2, b2]
      rfl
    · show max (PyData.depth (scaD v)) (PyData.depthAll (vs.map scaD)) = 0
      rw [a3, b3]
      rfl
    · intro t ht
      have ht : t ∈ PyData.shown (scaD v) :: PyData.shownAll (vs.map scaD) := ht
      rcases List.mem_cons.mp ht with rfl | ht
      · exact b4
      · exact a4 t ht
    · show (PyData.shown (scaD v) :: PyData.shownAll (vs.map scaD)).length = _
      rw [List.length_cons, a5, List.length_cons]
    · show (PyData.canLay0 (scaD v) && PyData.canLayAll0 (vs.map scaD)) = true
      rw [a6, b6]
      rfl
theorem rRepr_of {K : PySem.W.Frag} {H : Hp} {Q : VK} {l : Addr} {x : Str} {vs : List V} (hx : (reprText x).length ≤ 100) (hv : ∀ v ∈ vs, SmallV v) (hl : vs.length ≤ 2) (e : H l = some (.lst (.str x :: vs))) (q : Q (.str (PyData.shown (errD x vs))) H) : rRepr K [.ref l] H Q := by
  obtain ⟨a1, a2, a3, a4, a5, _⟩ := errD_all hv
  refine ⟨l, _, rfl, errD_dp hv e, ?_, ?_, ?_, ?_, q⟩
  · show (PyData.showable (.str x) && PyData.showableAll (vs.map scaD)) = true
    rw [a1]
    rfl
  · show (PyData.hasDict (.str x) || PyData.hasDictAll (vs.map scaD)) = false
    rw [a2]
    rfl
  · show max (PyData.depth (.str x)) (PyData.depthAll (vs.map scaD)) + 1 ≤ 10
    rw [a3]
    show max 0 0 + 1 ≤ 10
    decide
  · show (listText (reprText x :: PyData.shownAll (vs.map scaD))).length ≤ sizeLine
    have := listText_le (ts := reprText x :: PyData.shownAll (vs.map scaD)) (m := 1921) fun t ht => by
      rcases List.mem_cons.mp ht with rfl | ht
      · omega
      · exact a4 t ht
    rw [List.length_cons, a5] at this
    have h3 : (vs.length + 1) * (1921 + 2) ≤ 3 * (1921 + 2) := Nat.mul_le_mul_right _ (by omega)
    rw [sizeLine_eq]
    omega
/-- != of two such lists: the same -/
theorem rNeD_of {K : PySem.W.Frag} {H : Hp} {Q : VK} {l m : Addr} {x : Str} {vs : List V} (hx : SeqAt.shaped (errD x vs) = true) (hv : ∀ v ∈ vs, SmallV v) (e1 : H l = some (.lst (.str x :: vs))) (e2 : H m = some (.lst (.str x :: vs))) (q : Q (.bl false) H) : rNeD K (.ref l) (.ref m) H Q :=
  ⟨_, _, errD_dp hv e1, errD_dp hv e2, hx, hx, by rw [SeqAt.eqv_refl _ (SeqAt.canLay_of_shaped hx)]; exact q⟩
/-! ### the lanes of the other films -/
abbrev mP : List Pc := (List.replicate 30 [Pc.pl 0 1 1, Pc.no 1]).flatten
def manyL (l : Ln) : Ln := ⟨l.nm, l.ss, mP⟩
theorem mP_dens : dens mP = (List.replicate 30 [some 0, none]).flatten := by decide +kernel
theorem mP_ok : ∀ p ∈ mP, Pok p := by
  intro p hp
  obtain ⟨q, hq, hp⟩ := List.mem_flatten.mp hp
  rw [List.eq_of_mem_replicate hq] at hp
  simp only [List.mem_cons, List.not_mem_nil, or_false] at hp
  rcases hp with rfl | rfl
  · exact ⟨by decide, by decide, by decide⟩
  · show (1 : Int) ≤ 1
    decide
theorem tot_nn : ∀ {ss : List Smp}, (∀ s ∈ ss, Sok s) → (ss.length : Int) ≤ tot ss
  | [], _ => by simp [tot]
  | s :: ss, h => by
    have h1 := tot_nn (ss := ss) fun x hx => h x (List.mem_cons_of_mem _ hx)
    obtain ⟨_, _, h2, _⟩ := h s List.mem_cons_self
    show ((ss.length + 1 : Nat) : Int) ≤ s.ln + tot ss
    omega
theorem ss_tot {ss : List Smp} (h : SsOk ss) : 1 ≤ tot ss := by
  have := tot_nn h.1
  have := h.2.1
  omega
theorem many_ok {ls : List Ln} {n : Nat} (ok : LsOk ls n) : LsOk (ls.map manyL) 60 := by
  have en : (ls.map manyL).map Ln.nm = ls.map Ln.nm := by rw [List.map_map]; rfl
  refine ⟨fun l' hl' => ?_, by rw [List.length_map]; exact ok.one, by rw [List.length_map]; exact ok.four, by rw [en]; exact ok.nd⟩
  obtain ⟨l, hl, rfl⟩ := List.mem_map.mp hl'
  have o := ok.all l hl
  have le : (dens mP).length = 60 := by decide +kernel
  refine ⟨o.nm, o.ss, mP_ok, by show mP.length ≤ 100000; decide +kernel, le, by decide +kernel, fun m hm => ?_, ?_⟩
  · have hm : some m ∈ dens mP := hm
    rw [mP_dens] at hm
    obtain ⟨q, hq, hm⟩ := List.mem_flatten.mp hm
    rw [List.eq_of_mem_replicate hq] at hm
    simp only [List.mem_cons, List.not_mem_nil, or_false, Option.some.injEq, reduceCtorEq] at hm
    subst hm
    have := ss_tot o.ss
    show (0 : Int) < tot l.ss
    omega
  · have := mm_len (dens mP) false
    show mm false (dens mP) ≤ 100000
    omega
theorem many_mm {ls : List Ln} : MmLe ((ls.map manyL).map Ln.fl) 60 := fun f hf => by
  obtain ⟨l', hl', rfl⟩ := List.mem_map.mp hf
  obtain ⟨l, hl, rfl⟩ := List.mem_map.mp hl'
  have := mm_len (dens mP) false
  have le : (dens mP).length = 60 := by decide +kernel
  show mm false (dens mP) ≤ 60
  omega
theorem many_nm (ls : List Ln) : (ls.map manyL).map Ln.nm = ls.map Ln.nm := by
  rw [List.map_map]
  rfl
theorem many_ss (ls : List Ln) : (ls.map manyL).map Ln.ss = ls.map Ln.ss := by
  rw [List.map_map]
  rfl
theorem strg_ok {ss : List Smp} {k : Nat} (h : SsOk ss) (h1 : 1 ≤ k) (h2 : (k : Int) ≤ MAXL) : LsOk [⟨STR, ss, [.no k]⟩] k := by
  have base : LsOk [⟨STR, ss, []⟩] 0 := by
    refine ⟨fun l hl => ?_, by show 1 ≤ 1; decide, by show 1 ≤ 4; decide, by show [STR].Nodup; decide +kernel⟩
    rw [List.mem_singleton.mp hl]
    have nm : NmOk STR := nmB_ok (by decide +kernel)
    refine ⟨nm, h, ?_, ?_, rfl, by decide +kernel, ?_, ?_⟩
    · intro p hp
      cases hp
    · show 0 ≤ 100000
      decide
    · intro m hm
      cases hm
    · show mm false [] ≤ 100000
      decide +kernel
  exact noL_ok (ls := [⟨STR, ss, []⟩]) base h1 h2
theorem pieces30 {H : Hp} {t1 t2 : Addr} (h1 : H t1 = some (.tup (pcV (.pl 0 1 1)))) (h2 : H t2 = some (.tup (pcV (.no 1)))) : ∀ k : Nat, Tp pcV H (List.replicate k [t1, t2]).flatten (List.replicate k [Pc.pl 0 1 1, Pc.no 1]).flatten
  | 0 => .nil
  | k + 1 => .cons h1 (.cons h2 (pieces30 h1 h2 k))
theorem refs30 (t1 t2 : Addr) : ∀ k : Nat, ((List.replicate k [t1, t2]).flatten).map V.ref = (List.replicate k [V.ref t1, V.ref t2]).flatten
  | 0 => rfl
  | k + 1 => congrArg (fun z => V.ref t1 :: V.ref t2 :: z) (refs30 t1 t2 k)
end K24

/-! part LP -/
set_option Elab.async false
set_option linter.all false
set_option maxRecDepth 100000
set_option maxHeartbeats 4000000
namespace K24
open PySem PySem.Spec PyProof.Rows L2
def spFer (CE CF : Addr) : Sp := fun vs H Q _ => ∃ (fl x la : Addr) (fs : List Fl) (ls : List Ln) (n n' : Nat), vs = [.ref fl, .ref x, .ref la] ∧ FeedAt H fl ∧ FilmAt CE CF H x fs n ∧ FsOk fs n ∧ MmLe fs 22 ∧ n ≤ 300000000 ∧ LanesAt H la ls ∧ LsOk ls n' ∧ ls.map Ln.nm = fs.map Fl.nm ∧ ls.map Ln.ss = fs.map Fl.ss ∧
  ¬ ls.map Ln.nm = [STR] ∧ ∀ H', SameX fl H H' → FeedAt H' fl → Q (.bl true) H'
theorem lane_newA {H H' H2 : Hp} {sa l5 tv : Addr} {nm : Str} {ss : List Smp} {r5 : List Addr} {ps : List Pc} (s : Same H H') (hs : TL smV H sa ss) (n5 : H' l5 = none) (hp : Tp pcV H' r5 ps)
    (nv : (upd H' l5 (.lst (r5.map V.ref))) tv = none) (e2 : upd (upd H' l5 (.lst (r5.map V.ref))) tv (.tup [.str nm, .ref sa, .ref l5]) = H2) : Same H H2 ∧ LaneAt H2 tv ⟨nm, ss, ps⟩ := by
  subst e2
  have s5 := Same.new (o := .lst (r5.map V.ref)) n5
  have sv := Same.new (o := .tup [.str nm, .ref sa, .ref l5]) nv
  refine ⟨(s.trans s5).trans sv, sa, l5, upd_same, hs.keep (.of ((s.trans s5).trans sv)), ⟨r5, sv _ _ upd_same, Tp.keep (f := pcV) hp (.of (s5.trans sv))⟩⟩
abbrev momL (n : Nat) : List V := [.int (-1), .int ((n : Int) + 1), .non, .bl true, .int ((10 : Int) ^ (30 : Int).toNat)]
section
variable {P : Program} {w : World} {K : PySem.W.Frag} {mg : Str → Option Value} {base : Heap} {CE CF CS CL CT CM CO : Addr}
theorem sc__law_first_error_right : FnScope ["_law_feed_here", "_law_film", "_law_lanes_here", "_law_size", "_law_right", "_law_strange", "_law_many", "_law_at", "_law_moment", "_law_other", "_law_first", "_law_last", "_law_name", "_law_samples_here", "_law_pieces_here", "_law_one"] ["_law_feed_here", "_law_film", "_law_lanes_here"] (defScope (top 57)) := ⟨rfl, rfl, rfl, by decide +kernel, rfl, by decide +kernel, by decide +kernel⟩
theorem ok_law_first_error_right (T : Tx K mg) (TF : ClF K CF) (D : Has K (dN "_law_first_error_right" 57)) (g : mg "_law_first_error_right" = some (.ref (He.fAd K ("_law_first_error_right", none))))
    (G_take : OkG P w K mg base 1 "_law_take" ["_law_feed_here", "_law_size"] spTake) (G_Film : OkN P w K mg base 9 CF "Film" ["self", "lanes"] (spFilmInit CE CF CT))
    (G_error : OkG P w K mg base 13 "_law_error" ["_law_film", "_law_first", "_law_last", "_law_other"] (spErr CE CF)) :
    OkQ P w K mg base 14 "_law_first_error_right" ["_law_feed_here", "_law_film", "_law_lanes_here"] (spFer CE CF) := by
  refine okQ D g sc__law_first_error_right (fun _ _ _ _ _ _ us hl => match us, hl with | [_, _, _], _ => rfl) (fun vs H Q E h => ?_) (fun f cdv A outer s H vs Q E gA hr h => ?_)
  · obtain ⟨fl, x, la, fs, ls, n, n', rfl, _⟩ := h
    rfl
  · obtain ⟨fl, x, la, fs, ls, n, n', rfl, hf, hx, ok, hm, hn, ⟨rs, eL, hR⟩, lok, en, es, nst, q⟩ := h
    refine ⟨_, PSs.nox (pss_cons (ps_set (i := 3) sc__law_first_error_right.nd rfl (Or.inl rfl) (pe_fld (pv 1) rfl))
      (pss_cons (ps_set (i := 4) sc__law_first_error_right.nd rfl (Or.inl rfl) (pe_nG G_Film (hr.mono (by decide)) rfl passL (pa_cons (pe_lc (own := [("_law_name", 12), ("_law_samples_here", 13), ("_law_pieces_here", 14)]) rfl sc__law_first_error_right.nd (pi_list (pv 2)) (blkOk_by (N := ["_law_feed_here", "_law_film", "_law_lanes_here", "_law_size", "_law_right", "_law_strange", "_law_many", "_law_at", "_law_moment", "_law_other", "_law_first", "_law_last", "_law_name", "_law_samples_here", "_law_pieces_here", "_law_one"]) (sc := (defScope (top 57))) (by decide +kernel)) (fun _ _ _ _ _ => (pg_tupK (K := K) (n := 3) rfl (pgs_cons (pg_name (i := 12) sc__law_first_error_right.nd rfl (Or.inl rfl)) (pgs_cons (pg_name (i := 13) sc__law_first_error_right.nd rfl (Or.inl rfl)) (pgs_cons (pg_name (i := 14) sc__law_first_error_right.nd rfl (Or.inl rfl)) pgs_nil))))) (fun _ _ _ _ _ => pts_nil) (fun _ _ _ _ _ => (pe_tup (pa_cons (pv 12) (pa_cons (pv 13) (pa_cons (pe_lst (pa_cons (pe_tup (pa_cons pe_str (pa_cons (pe_op op_pow pe_int pe_int) pa_nil))) pa_nil)) pa_nil)))))) pa_nil)))
      (pss_cons (ps_set (i := 5) sc__law_first_error_right.nd rfl (Or.inl rfl) (pe_nG G_Film (hr.mono (by decide)) rfl passL (pa_cons (pe_lst (pa_cons (pe_tup (pa_cons pe_str (pa_cons (pe_ix ix_tup (pe_ix ix_list (pv 2) pe_int (fun _ _ => rfl)) pe_int (fun _ _ => rfl)) (pa_cons (pe_lst (pa_cons (pe_tup (pa_cons pe_str (pa_cons (pe_op op_pow pe_int pe_int) pa_nil))) pa_nil)) pa_nil)))) pa_nil)) pa_nil)))
      (pss_cons (ps_set (i := 6) sc__law_first_error_right.nd rfl (Or.inl rfl) (pe_nG G_Film (hr.mono (by decide)) rfl passL (pa_cons (pe_lc (own := [("_law_one", 15)]) rfl sc__law_first_error_right.nd (pi_list (pv 2)) (blkOk_by (N := ["_law_feed_here", "_law_film", "_law_lanes_here", "_law_size", "_law_right", "_law_strange", "_law_many", "_law_at", "_law_moment", "_law_other", "_law_first", "_law_last", "_law_name", "_law_samples_here", "_law_pieces_here", "_law_one"]) (sc := (defScope (top 57))) (by decide +kernel)) (fun _ _ _ _ _ => (pg_name (i := 15) sc__law_first_error_right.nd rfl (Or.inl rfl))) (fun _ _ _ _ _ => pts_nil) (fun _ _ _ _ _ => (pe_tup (pa_cons (pe_ix (ixTK (K := K)) (pv 15) pe_int (fun _ _ => rfl)) (pa_cons (pe_ix (ixTK (K := K)) (pv 15) pe_int (fun _ _ => rfl)) (pa_cons (pe_op op_rep (pe_lst (pa_cons (pe_tup (pa_cons pe_str (pa_cons pe_int (pa_cons pe_int (pa_cons pe_int pa_nil))))) (pa_cons (pe_tup (pa_cons pe_str (pa_cons pe_int pa_nil))) pa_nil))) pe_int) pa_nil)))))) pa_nil)))
      (pss_cons (ps_set (i := 7) sc__law_first_error_right.nd rfl (Or.inl rfl) (pe_cG G_take (hr.mono (by decide)) rfl passL (pa_cons (pv 0) (pa_cons (pe_op op_add (pe_callB (call_min2 rfl) (by rfl) T.min (by decide +kernel) (pa_cons (pv 3) (pa_cons pe_int pa_nil))) pe_int) pa_nil))))
      (pss_cons (ps_for PassesOwn.never rfl (pi_list (pe_lst (pa_cons (pe_un un_neg pe_int) (pa_cons (pe_op op_add (pv 3) pe_int) (pa_cons pe_non (pa_cons pe_bl (pa_cons (pe_op op_pow pe_int pe_int) pa_nil))))))) (pg_name (i := 8) sc__law_first_error_right.nd rfl (Or.inl rfl))
        (pss_one (ps_for PassesOwn.never rfl (pi_list (pe_lst (pa_cons (pv 4) (pa_cons (pv 5) (pa_cons (pv 1) pa_nil))))) (pg_name (i := 9) sc__law_first_error_right.nd rfl (Or.inl rfl))
            (pss_one (ps_if (pt_cmpR op_ne (pe_callB (call_repr gA hr.units) (by rfl) T.repr (by decide +kernel) (pa_cons (pe_cG G_error (hr.mono (by decide)) rfl passL (pa_cons (pv 1) (pa_cons (pv 8) (pa_cons pe_int (pa_cons (pv 9) pa_nil))))) pa_nil)) (pe_callB (call_repr gA hr.units) (by rfl) T.repr (by decide +kernel) (pa_cons (pe_lst (pa_cons pe_str (pa_cons (pv 8) pa_nil))) pa_nil)) (nomark _))
                (pss_one (ps_ret pe_bl))
                pss_nil)))))
      (pss_cons (ps_if (PW.pt (pw_or (pt_cmpR (op_neD hr.units) (pe_cG G_error (hr.mono (by decide)) rfl passL (pa_cons (pv 1) (pa_cons (pv 7) (pa_cons pe_int (pa_cons (pv 5) pa_nil))))) (pe_lst (pa_cons pe_str pa_nil)) (nomark _)) (pw_or1 (pt_cmpR (op_neD hr.units) (pe_cG G_error (hr.mono (by decide)) rfl passL (pa_cons (pv 6) (pa_cons pe_int (pa_cons pe_int (pa_cons (pv 4) pa_nil))))) (pe_lst (pa_cons pe_str (pa_cons (pe_op op_add (pe_op op_pow pe_int pe_int) pe_int) pa_nil))) (nomark _)))))
        (pss_one (ps_ret pe_bl))
        pss_nil)
      (pss_cons (ps_for PassesOwn.never rfl (pi_list (pe_lst (pa_cons (pe_tup (pa_cons pe_int (pa_cons (pe_op op_add (pv 3) pe_int) pa_nil))) (pa_cons (pe_tup (pa_cons (pe_op op_add (pv 3) pe_int) (pa_cons (pe_op op_add (pv 3) pe_int) pa_nil))) (pa_cons (pe_tup (pa_cons pe_non (pa_cons (pv 3) pa_nil))) (pa_cons (pe_tup (pa_cons (pe_op op_add (pv 3) pe_int) (pa_cons pe_int pa_nil))) pa_nil)))))) (pg_tup rfl (pgs_cons (pg_name (i := 10) sc__law_first_error_right.nd rfl (Or.inl rfl)) (pgs_cons (pg_name (i := 11) sc__law_first_error_right.nd rfl (Or.inl rfl)) pgs_nil)))
        (pss_one (ps_if (pt_cmpR op_ne (pe_callB (call_repr gA hr.units) (by rfl) T.repr (by decide +kernel) (pa_cons (pe_cG G_error (hr.mono (by decide)) rfl passL (pa_cons (pv 1) (pa_cons (pv 10) (pa_cons (pv 11) (pa_cons pe_non pa_nil))))) pa_nil)) (pe_callB (call_repr gA hr.units) (by rfl) T.repr (by decide +kernel) (pa_cons (pe_lst (pa_cons pe_str (pa_cons (pv 10) (pa_cons (pv 11) pa_nil)))) pa_nil)) (nomark _))
            (pss_one (ps_ret pe_bl))
            pss_nil)))
      (pss_one (ps_ret pe_bl)))))))))), ?_⟩
    obtain ⟨dx, tn, dk0, de, ex⟩ := hx.ins
    have e9 : (10 : Int) ^ (9 : Int).toNat = 1000000000 := by decide +kernel
    have MX : MAXL = 1000000000 := rfl
    have lz : ∀ k : Nat, k ≤ 100000 → k ≤ sizeLine := fun k hk => by rw [sizeLine_eq]; omega
    have bigR : ((1000000000 : Nat) : Int) ≤ MAXL := by decide
    refine ⟨_, rfl, x, CF, dx, _, _, rfl, ex, TF.cl, TF.nL, fmF_l, ?_⟩
    -- right
    refine ⟨_, rfl, la, rfl, ⟨_, SqL.of eL⟩, fun D1 hD1 => ?_⟩
    refine lc_lanes (K := K) (noL 1000000000) eL hR lok.four hD1 ?_ ?_
    · rintro H2 acc r l s2 eD ⟨sa, pa, nsa, npa, w0, w1, w2⟩ N hN
      refine ⟨r, _, rfl, SqT.of w0, rfl, _, _, rfl, _, _, rfl, _, _, rfl, rfl, rfl, _, rfl, _, rfl, _, _, rfl, rfl, ⟨by decide, by decide, by decide⟩, lz 2 (by decide), fun tu htu => ⟨lz 1 (by decide), fun l5 hl5 => ⟨lz 3 (by decide), fun tv htv => ?_⟩⟩⟩
      obtain ⟨z1, z2⟩ := lane_new (ps := [.no (1000000000 : Nat)]) (Same.new htu) eD nsa w1 hl5 (.cons (by dsimp only; rw [e9]; exact upd_same) .nil) htv rfl
      exact hN _ _ z1 z2
    intro H2 s2 hL2
    have lkR : LsOk (ls.map (noL 1000000000)) 1000000000 := noL_ok lok (by decide) bigR
    refine fm_makeA (a := D1) hL2 lkR (fl_few (by decide) noL_mm) fun H3 yr s3 hyr => ?_
    have s23 := s2.trans s3
    -- strange
    have hrl := Paired.length hR
    obtain ⟨l0, hl0⟩ : ∃ l, ls[0]? = some l := ⟨_, List.getElem?_eq_getElem (by have := lok.one; omega)⟩
    obtain ⟨r0, hr0⟩ : ∃ r, rs[0]? = some r := ⟨_, List.getElem?_eq_getElem (by have := lok.one; omega)⟩
    obtain ⟨l0', hl0', sa0, pa0, t0, t1, t2⟩ := paired_get hR hr0
    obtain rfl : l0 = l0' := Option.some.inj (hl0.symm.trans hl0')
    have o0 := lok.all l0 (List.mem_of_getElem? hl0)
    refine ⟨_, rfl, la, _, _, _, rfl, rfl, SqL.of (s23 _ _ eL), at0 (by simp [hr0]), r0, _, _, _, rfl, rfl, SqT.of (s23 _ _ t0), at1 rfl, _, _, rfl, rfl, ⟨by decide, by decide, by decide⟩, lz 2 (by decide), fun tu htu => ⟨lz 1 (by decide), fun l5 hl5 => ⟨lz 3 (by decide), fun tv htv => ⟨lz 1 (by decide), fun lq hlq => ?_⟩⟩⟩⟩
    obtain ⟨z1, z2⟩ := lane_newA (ps := [.no (1000000000 : Nat)]) (Same.new htu) (t1.keep (.of s23)) hl5 (.cons (by dsimp only; rw [e9]; exact upd_same) .nil) htv rfl
    have s4 := Same.new (o := .lst [.ref tv]) hlq
    have lkS : LsOk [⟨STR, l0.ss, [.no (1000000000 : Nat)]⟩] 1000000000 := strg_ok o0.ss (by decide) bigR
    have mmS : MmLe ([⟨STR, l0.ss, [.no (1000000000 : Nat)]⟩].map Ln.fl) 1 := noL_mm (ls := [⟨STR, l0.ss, []⟩])
    refine fm_makeA (a := lq) (ls := [⟨STR, l0.ss, [.no (1000000000 : Nat)]⟩]) (n := 1000000000) ⟨[tv], upd_same, .cons (z2.keep (.of s4)) .nil⟩ lkS (fl_few (by decide) mmS) fun H4 ys s5 hys => ?_
    have s234 := s23.trans ((z1.trans s4).trans s5)
    have hyr4 := hyr.same ((z1.trans s4).trans s5)
    clear z1 z2 hlq htv hl5 htu
    -- many
    refine ⟨_, rfl, la, rfl, ⟨_, SqL.of (s234 _ _ eL)⟩, fun D2 hD2 => ?_⟩
    refine lc_lanes (K := K) manyL (s234 _ _ eL) (Paired.mapP hR fun _ _ z => z.keep (.of s234)) lok.four hD2 ?_ ?_
    · rintro H5 acc r l s6 eD ⟨sa, pa, nsa, npa, w0, w1, w2⟩ N hN
      refine ⟨rfl, _, rfl, r, _, _, _, rfl, rfl, SqT.of w0, at0 rfl, _, rfl, r, _, _, _, rfl, rfl, SqT.of w0, at1 rfl, lz 4 (by decide), fun ta hta => ⟨lz 2 (by decide), fun tb htb => ⟨lz 2 (by decide), fun lp hlp => ?_⟩⟩⟩
      refine ⟨lp, _, _, rfl, rfl, upd_same, by decide, by decide, lz 60 (by decide), fun l5 hl5 => ⟨lz 3 (by decide), fun tv htv => ?_⟩⟩
      have sa1 := Same.new (o := .tup (pcV (.pl 0 1 1))) hta
      have sa2 := Same.new (o := .tup (pcV (.no 1))) htb
      have sa3 := Same.new (o := .lst [.ref ta, .ref tb]) hlp
      have pp := pieces30 (sa3 _ _ (sa2 _ _ (upd_same (H := H5) (a := ta) (o := .tup (pcV (.pl 0 1 1)))))) (sa3 _ _ (upd_same (a := tb) (o := .tup (pcV (.no 1))))) 30
      obtain ⟨z1, z2⟩ := lane_new (nm := l.nm) (ps := mP) ((sa1.trans sa2).trans sa3) eD nsa w1 hl5 pp (by rw [refs30]; exact htv) rfl
      rw [refs30] at z1 z2
      exact hN _ _ z1 z2
    intro H5 s6 hL5
    have lkM : LsOk (ls.map manyL) 60 := many_ok lok
    refine fm_makeA (a := D2) hL5 lkM (fl_few (by decide) many_mm) fun H6 ym s7 hym => ?_
    have s67 := s6.trans s7
    have s16 := s234.trans s67
    -- at
    obtain ⟨c50, h50, h50n, h50m⟩ : ∃ c : Nat, (if (50 : Int) < (n : Int) then 50 else (n : Int)) = (c : Int) ∧ c ≤ n ∧ c ≤ 50 := by
      by_cases z : (50 : Int) < (n : Int)
      · exact ⟨50, by rw [if_pos z]; rfl, by omega, by omega⟩
      · exact ⟨n, by rw [if_neg z], by omega, by omega⟩
    have f6 := hf.keep s16
    refine ⟨_, rfl, _, rfl, _, _, rfl, _, _, rfl, rfl, ?_⟩
    dsimp only [tNil]
    rw [h50]
    refine ⟨fl, _, rfl, by omega, by omega, f6, fun H7 v s8 f7 v0 v1 => ?_⟩
    obtain ⟨at', rfl⟩ := Int.eq_ofNat_of_zero_le v0
    have n7 : ∀ {y : Addr} {gs : List Fl} {m : Nat}, FilmAt CE CF H6 y gs m → FilmAt CE CF H7 y gs m := fun h => h.keep (s8.f f6)
    have hx7 := n7 (hx.same s16)
    have hyr7 := n7 (hyr4.same s67)
    have hys7 := n7 (hys.same s67)
    have hym7 := n7 hym
    have k7 : SameX fl H H7 := (SameX.of s16).trans s8
    have okR : FsOk ((ls.map (noL 1000000000)).map Ln.fl) 1000000000 := fl_ok lkR (by decide) noL_mm
    have okS : FsOk ([⟨STR, l0.ss, [.no (1000000000 : Nat)]⟩].map Ln.fl) 1000000000 := fl_ok lkS (by decide) mmS
    have okM : FsOk ((ls.map manyL).map Ln.fl) 60 := fl_ok lkM (by decide) many_mm
    have m60 : MmLe fs 60 := hm.mono (by decide)
    have sm1 : SmallV (.int (-1)) := small_int (lt_big (by decide))
    have smN : ∀ k : Nat, k ≤ 10 → SmallV (.int ((n : Int) + k)) := fun k hk => small_int (lt_big (Nat.le_trans (show ((n : Int) + k).natAbs ≤ 300000010 by omega) (by decide +kernel)))
    have rM : (reprText "moment").length ≤ 100 := by decide +kernel
    have rS : (reprText "stretch").length ≤ 100 := by decide +kernel
    -- moments
    refine ⟨_, rfl, _, rfl, _, _, rfl, rfl, _, _, rfl, rfl, ⟨by decide, by decide, by decide⟩, lz 5 (by decide), fun lo hlo => ?_⟩
    have s9 := Same.new (o := .lst (momL n)) hlo
    have mo : ∀ y ∈ momL n, SmallV y ∧ ¬ momOk y n := by
      intro y hy
      simp only [List.mem_cons, List.not_mem_nil, or_false] at hy
      rcases hy with rfl | rfl | rfl | rfl | rfl
      · refine ⟨sm1, ?_⟩
        rintro ⟨a, e, _⟩
        injection e with e
        omega
      · refine ⟨smN 1 (by decide), ?_⟩
        rintro ⟨a, e, h⟩
        injection e with e
        omega
      · refine ⟨small_non, ?_⟩
        rintro ⟨a, e, _⟩
        cases e
      · refine ⟨small_bl _, ?_⟩
        rintro ⟨a, e, _⟩
        cases e
      · refine ⟨small_int (by decide +kernel), ?_⟩
        rintro ⟨a, e, h⟩
        injection e with e
        have : (300000000 : Int) < (10 : Int) ^ (30 : Int).toNat := by decide +kernel
        omega
    have elo : (upd H7 lo (.lst (momL n))) lo = some (.lst (momL n)) := upd_same
    refine ⟨lo, rfl, ⟨_, SqL.of elo⟩, for_it (walk_list (K := K) (xs := momL n)) (fun i σ H1 => ∃ v8 v9 : Option V, σ = [some (.ref fl), some (.ref x), some (.ref la), some (.int n), some (.ref yr), some (.ref ys), some (.ref ym), some (.int at'), v8, v9, none, none, none, none, none, none] ∧ Same (upd H7 lo (.lst (momL n))) H1)
      ⟨none, none, rfl, fun _ _ z => z⟩ (fun i σ H1 _ ⟨_, _, _, s10⟩ => SqL.of (s10 _ _ elo)) ?_ ?_⟩
    · rintro i y σ Hz Ha hi ⟨v8, v9, rfl, s10⟩ ⟨rfl, ey⟩
      obtain ⟨smy, bad⟩ := mo y (List.mem_of_getElem? ey)
      refine ⟨_, rfl, _, rfl, _, rfl, lz 3 (by decide), fun li hli => ?_⟩
      have s11 := Same.new (o := .lst [.ref yr, .ref ys, .ref x]) hli
      refine ⟨li, rfl, ⟨_, SqL.of upd_same⟩, for_it (walk_list (K := K) (xs := [.ref yr, .ref ys, .ref x])) (fun j σ H1 => ∃ v9 : Option V, σ = [some (.ref fl), some (.ref x), some (.ref la), some (.int n), some (.ref yr), some (.ref ys), some (.ref ym), some (.int at'), some y, v9, none, none, none, none, none, none] ∧ Same (upd Ha li (.lst [.ref yr, .ref ys, .ref x])) H1)
        ⟨_, rfl, fun _ _ z => z⟩ (fun j σ H1 _ ⟨_, _, s12⟩ => SqL.of (s12 _ _ upd_same)) ?_ ?_⟩
      · rintro j z σ Hy Hb hj ⟨v9', rfl, s12⟩ ⟨rfl, ez⟩
        have sb := ((s9.trans s10).trans s11).trans s12
        have hz := List.mem_of_getElem? ez
        obtain ⟨yo, gs, m, rfl, hyo, oko, mo60⟩ : ∃ (yo : Addr) (gs : List Fl) (m : Nat), z = .ref yo ∧ FilmAt CE CF H7 yo gs m ∧ FsOk gs m ∧ MmLe gs 60 := by
          simp only [List.mem_cons, List.not_mem_nil, or_false] at hz
          rcases hz with rfl | rfl | rfl
          · exact ⟨yr, _, _, rfl, hyr7, okR, (noL_mm (ls := ls)).mono (by decide)⟩
          · exact ⟨ys, _, _, rfl, hys7, okS, mmS.mono (by decide)⟩
          · exact ⟨x, _, _, rfl, hx7, ok, m60⟩
        refine ⟨_, rfl, _, rfl, _, rfl, ?_⟩
        dsimp only [tNil, tCons, tC]
        refine ⟨x, fs, n, y, _, _, rfl, smy.sca, hx7.same sb, ok, m60, .inr ⟨yo, gs, m, rfl, hyo.same sb, oko, mo60, .inl ⟨bad, fun Hc l s13 el => ?_⟩⟩⟩
        refine rRepr_of rM (vs := [y]) (by simpa using smy) (by show 1 ≤ 2; decide) el ?_
        refine ⟨_, rfl, lz 2 (by decide), fun l2 hl2 => ?_⟩
        dsimp only [tNil]
        refine rRepr_of rM (vs := [y]) (by simpa using smy) (by show 1 ≤ 2; decide) upd_same ⟨rfl, _, rfl, ?_⟩
        refine ite2 (fun q => absurd q (by simp)) (fun _ => ?_)
        exact ⟨_, rfl, (s12.trans s13).trans (Same.new hl2)⟩
      · rintro σ Hb ⟨v9', rfl, s12⟩
        exact ⟨_, _, rfl, (s10.trans s11).trans s12⟩
    rintro σ Ha ⟨v8, v9, rfl, s10⟩
    have s79 := s9.trans s10
    -- lanes
    refine ⟨_, rfl, _, rfl, _, rfl, ?_⟩
    dsimp only [tNil, tCons, tC]
    have hs7 := hys7.same s79
    refine ⟨x, fs, n, _, _, _, rfl, .inr (.inr ⟨_, rfl⟩), hx7.same s79, ok, m60, .inr ⟨ys, _, _, rfl, hs7, okS, mmS.mono (by decide), .inr ⟨at', rfl, by omega, .inl ⟨fun z => nst (en.trans z.symm), fun Hc l s11 el => ?_⟩⟩⟩⟩
    refine ⟨lz 1 (by decide), fun l2 hl2 => ?_⟩
    have s12 := Same.new (o := .lst [.str "lanes"]) hl2
    refine rNeD_of (x := "lanes") (vs := []) (by decide +kernel) (fun v hv => nomatch hv) (s12 _ _ el) upd_same ⟨_, rfl, ?_⟩
    refine ite2 (fun q => absurd q (by decide)) (fun _ => ?_)
    have s7c := (s79.trans s11).trans s12
    -- long
    refine ⟨_, rfl, _, rfl, ?_⟩
    dsimp only [tNil, tCons, tC]
    refine ⟨ym, _, 60, _, _, _, rfl, .inr (.inr ⟨_, rfl⟩), hym7.same s7c, okM, many_mm, .inr ⟨yr, _, _, rfl, hyr7.same s7c, okR, (noL_mm (ls := ls)).mono (by decide), .inr ⟨7, rfl, by decide, .inr ⟨by rw [fl_nm, noL_nm, fl_nm, many_nm], by rw [fl_ss, noL_ss, fl_ss, many_ss], by decide, fun Hd l' s13 el' => ?_⟩⟩⟩⟩
    refine ⟨_, _, rfl, rfl, ⟨by decide, by decide, by decide⟩, _, _, rfl, rfl, lz 2 (by decide), fun l3 hl3 => ?_⟩
    have e60 : ((10 : Int) ^ (9 : Int).toNat) + 60 = 1000000060 := by decide +kernel
    dsimp only
    rw [e60]
    have s14 := Same.new (o := .lst [.str "long", .int 1000000060]) hl3
    refine rNeD_of (x := "long") (vs := [.int 1000000060]) (by decide +kernel) (by simpa using small_int (by decide +kernel)) (s14 _ _ el') upd_same ⟨_, rfl, ?_⟩
    refine ite2 (fun q => absurd q (by decide)) (fun _ => ?_)
    have s7d := (s7c.trans s13).trans s14
    clear hl2 hl3
    generalize upd Hd l3 (.lst [.str "long", .int 1000000060]) = He at s7d ⊢
    -- stretches
    refine ⟨_, rfl, _, _, rfl, rfl, lz 2 (by decide), fun ta hta => ⟨_, rfl, _, _, rfl, rfl, _, rfl, _, _, rfl, rfl, lz 2 (by decide), fun tb htb => ⟨_, rfl, lz 2 (by decide), fun tc htc => ⟨_, rfl, _, _, rfl, rfl, lz 2 (by decide), fun td htd => ⟨lz 4 (by decide), fun lo2 hlo2 => ?_⟩⟩⟩⟩⟩
    have u1 := Same.new (o := .tup [.int 0, .int ((n : Int) + 1)]) hta
    have u2 := Same.new (o := .tup [.int ((n : Int) + 1), .int ((n : Int) + 1)]) htb
    have u3 := Same.new (o := .tup [.non, .int n]) htc
    have u4 := Same.new (o := .tup [.int ((n : Int) + 5), .int 0]) htd
    have u5 := Same.new (o := .lst [.ref ta, .ref tb, .ref tc, .ref td]) hlo2
    have sm0 : SmallV (.int 0) := small_int (by decide +kernel)
    have smn : SmallV (.int n) := by
      have := smN 0 (by decide)
      rwa [Int.natCast_zero, Int.add_zero] at this
    have pr : ∀ z ∈ [V.ref ta, .ref tb, .ref tc, .ref td], ∃ (t : Addr) (p q : V), z = .ref t ∧ (upd (upd (upd (upd (upd He ta (.tup [.int 0, .int ((n : Int) + 1)])) tb (.tup [.int ((n : Int) + 1), .int ((n : Int) + 1)])) tc (.tup [.non, .int n])) td (.tup [.int ((n : Int) + 5), .int 0])) lo2 (.lst [.ref ta, .ref tb, .ref tc, .ref td])) t = some (.tup [p, q]) ∧ SmallV p ∧ SmallV q ∧ ¬ strOk p q n := by
      intro z hz
      simp only [List.mem_cons, List.not_mem_nil, or_false] at hz
      rcases hz with rfl | rfl | rfl | rfl
      · refine ⟨ta, _, _, rfl, u5 _ _ (u4 _ _ (u3 _ _ (u2 _ _ upd_same))), sm0, smN 1 (by decide), ?_⟩
        rintro ⟨a, b, e1, e2, _, _⟩
        injection e2 with e2
        omega
      · refine ⟨tb, _, _, rfl, u5 _ _ (u4 _ _ (u3 _ _ upd_same)), smN 1 (by decide), smN 1 (by decide), ?_⟩
        rintro ⟨a, b, e1, e2, _, _⟩
        injection e2 with e2
        omega
      · refine ⟨tc, _, _, rfl, u5 _ _ (u4 _ _ upd_same), small_non, smn, ?_⟩
        rintro ⟨a, b, e1, _⟩
        cases e1
      · refine ⟨td, _, _, rfl, u5 _ _ upd_same, smN 5 (by decide), sm0, ?_⟩
        rintro ⟨a, b, e1, e2, _, _⟩
        injection e1 with e1
        injection e2 with e2
        omega
    have el2 : (upd (upd (upd (upd (upd He ta (.tup [.int 0, .int ((n : Int) + 1)])) tb (.tup [.int ((n : Int) + 1), .int ((n : Int) + 1)])) tc (.tup [.non, .int n])) td (.tup [.int ((n : Int) + 5), .int 0])) lo2 (.lst [.ref ta, .ref tb, .ref tc, .ref td])) lo2 = some (.lst [.ref ta, .ref tb, .ref tc, .ref td]) := upd_same
    have u15 := (((u1.trans u2).trans u3).trans u4).trans u5
    obtain ⟨Hq, eq⟩ : ∃ Hq, Hq = upd (upd (upd (upd (upd He ta (.tup [.int 0, .int ((n : Int) + 1)])) tb (.tup [.int ((n : Int) + 1), .int ((n : Int) + 1)])) tc (.tup [.non, .int n])) td (.tup [.int ((n : Int) + 5), .int 0])) lo2 (.lst [.ref ta, .ref tb, .ref tc, .ref td]) := ⟨_, rfl⟩
    rw [← eq] at pr el2 u15
    refine ⟨lo2, rfl, ⟨_, SqL.of upd_same⟩, for_it (walk_list (K := K) (xs := [.ref ta, .ref tb, .ref tc, .ref td])) (fun i σ H1 => ∃ v8 v9 v10 v11 : Option V, σ = [some (.ref fl), some (.ref x), some (.ref la), some (.int n), some (.ref yr), some (.ref ys), some (.ref ym), some (.int at'), v8, v9, v10, v11, none, none, none, none] ∧ Same Hq H1)
      ⟨_, _, _, _, rfl, by rw [eq]; exact fun _ _ z => z⟩ (fun i σ H1 _ ⟨_, _, _, _, _, s15⟩ => SqL.of (s15 _ _ el2)) ?_ ?_⟩
    · rintro i z σ Hz Hb hi ⟨w8, w9, w10, w11, rfl, s15⟩ ⟨rfl, ez⟩
      obtain ⟨t, p, q', rfl, et, smp, smq, bad⟩ := pr z (List.mem_of_getElem? ez)
      have sb := (s7d.trans u15).trans s15
      refine ⟨t, _, rfl, SqT.of (s15 _ _ et), rfl, _, _, rfl, _, _, rfl, rfl, ?_⟩
      refine ⟨_, rfl, _, rfl, _, rfl, ?_⟩
      dsimp only [tNil, tCons, tC]
      refine ⟨x, fs, n, p, q', _, rfl, smp.sca, hx7.same sb, ok, m60, .inl ⟨rfl, smq.sca, bad, fun Hc l s16 el => ?_⟩⟩
      refine rRepr_of rS (vs := [p, q']) (by simpa using ⟨smp, smq⟩) (by show 2 ≤ 2; decide) el ?_
      refine ⟨_, rfl, _, rfl, lz 3 (by decide), fun l2 hl2 => ?_⟩
      dsimp only [tNil]
      refine rRepr_of rS (vs := [p, q']) (by simpa using ⟨smp, smq⟩) (by show 2 ≤ 2; decide) upd_same ⟨rfl, _, rfl, ?_⟩
      refine ite2 (fun q => absurd q (by simp)) (fun _ => ?_)
      exact ⟨_, _, _, _, rfl, (s15.trans s16).trans (Same.new hl2)⟩
    · rintro σ Hb ⟨w8, w9, w10, w11, rfl, s15⟩
      have sb := (s7d.trans u15).trans s15
      exact q _ (k7.trans (.of sb)) (f7.keep sb)
end
end K24

/-! part LQ -/
set_option Elab.async false
set_option linter.all false
set_option maxRecDepth 100000
set_option maxHeartbeats 4000000
namespace K24
open PySem PySem.Spec PyProof.Rows L2
theorem pick_call {K : PySem.W.Frag} {H : Hp} {Q : VK} {E : XK} {c fl : Addr} {xs : List V} (hf : FeedAt H fl) (hc : H c = none) (h1 : 1 ≤ xs.length) (h2 : xs.length ≤ 1000) (k : ∀ H' x, SameX fl H H' → FeedAt H' fl → x ∈ xs → Q x H') :
    spPick K [.ref fl, .ref c] (upd H c (.lst xs)) Q E := by
  have s := Same.new (o := .lst xs) hc
  refine ⟨fl, c, xs, rfl, hf.keep s, upd_same, fun z => ?_, h1, h2, fun H' x s' f' hx => k H' x (.trans (.of s) s') f' hx⟩
  obtain ⟨_, _, _, _, e⟩ := hf
  rw [z, e] at hc
  cases hc
theorem two_of {ns : List Int} {i j n : Int} (p : ns.Perm [i, j]) (s : ns.Pairwise (· ≤ ·)) (hi : 0 ≤ i ∧ i < n + 1) (hj : 0 ≤ j ∧ j < n + 1) : ∃ a b : Nat, ns = [(a : Int), (b : Int)] ∧ a ≤ b ∧ (b : Int) ≤ n := by
  have hl : ns.length = 2 := p.length_eq
  match ns, hl with
  | [u, v], _ =>
    have mu : ∀ z ∈ [u, v], 0 ≤ z ∧ z < n + 1 := fun z hz => by
      have := p.subset hz
      simp only [List.mem_cons, List.not_mem_nil, or_false] at this
      rcases this with rfl | rfl
      · exact hi
      · exact hj
    obtain ⟨u0, u1⟩ := mu u (by simp)
    obtain ⟨v0, v1⟩ := mu v (by simp)
    have le : u ≤ v := by simpa using s
    obtain ⟨a, rfl⟩ := Int.eq_ofNat_of_zero_le u0
    obtain ⟨b, rfl⟩ := Int.eq_ofNat_of_zero_le v0
    exact ⟨a, b, rfl, by omega, by omega⟩
theorem rep_none {m t : Nat} : repL (List.replicate 7 none) 2 5 t = (List.replicate (4 + 3 * t) none : Mo) := by
  have h1 : ∀ t : Nat, (List.replicate t (List.replicate 3 none : Mo)).flatten = List.replicate (3 * t) none := fun t => by
    induction t with
    | zero => rfl
    | succ t ih =>
      rw [List.replicate_succ, List.flatten_cons, ih, List.replicate_append_replicate]
      congr 1
      omega
  unfold repL
  have e1 : (List.replicate 7 none : Mo).take 2 = List.replicate 2 none := rfl
  have e2 : (List.replicate 7 none : Mo).drop 5 = List.replicate 2 none := rfl
  have e3 : midL (List.replicate 7 none : Mo) 2 5 = List.replicate 3 none := by decide +kernel
  rw [e1, e2, e3, h1, List.replicate_append_replicate, List.replicate_append_replicate]
  congr 1
  omega
theorem idle_rep {ls : List Ln} {t : Nat} : (((ls.map (noL 7)).map Ln.fl).map (Fl.up fun L => repL L 2 5 t)) = (ls.map (noL (4 + 3 * t))).map Ln.fl := by
  rw [List.map_map, List.map_map, List.map_map]
  refine List.map_congr_left fun l _ => ?_
  show (⟨l.nm, l.ss, repL (dens [.no (7 : Nat)]) 2 5 t⟩ : Fl) = ⟨l.nm, l.ss, dens [.no ((4 + 3 * t : Nat) : Int)]⟩
  rw [dens_no, dens_no, rep_none (m := 0)]
theorem lanes_mm {ls : List Ln} {n : Nat} (ok : LsOk ls n) (hn : n ≤ 20) : MmLe (ls.map Ln.fl) 22 := fun f hf => by
  obtain ⟨l, hl, rfl⟩ := List.mem_map.mp hf
  have := mm_len (dens l.ps) false
  have h := (ok.all l hl).len
  show mm false (dens l.ps) ≤ 22
  omega
theorem sqL_same {K : PySem.W.Frag} {H H' : Hp} {a : Addr} {xs : List V} (h : SqL K H a xs) (s : Same H H') : SqL K H' a xs := by
  rcases h with (h | ⟨o, h⟩) | h
  · exact .inl (.inl (s _ _ h))
  · exact .inl (.inr ⟨o, s _ _ h⟩)
  · exact .inr h
/-- what the law's loop knows of one of the two lists of lanes -/
def SomeAt (H : Hp) (b : Addr) (ls : List Ln) : Prop := ∃ (ls' : List Ln) (n : Nat), LanesAt H b ls' ∧ LsOk ls' n ∧ n ≤ 100000027 ∧ MmLe (ls'.map Ln.fl) 22 ∧ ls'.map Ln.nm = ls.map Ln.nm ∧ ls'.map Ln.ss = ls.map Ln.ss
def spLaw (K : PySem.W.Frag) : Sp := fun vs H Q _ => ∃ (a : Addr) (ns : List Int), vs = [.ref a] ∧ SqL K H a (ns.map V.int) ∧ ns.length ≤ 63 ∧ ∀ H', Q (.bl true) H'
end K24

/-! part LR -/
set_option Elab.async false
set_option linter.all false
set_option maxRecDepth 100000
set_option maxHeartbeats 4000000
namespace K24
open PySem PySem.Spec PyProof.Rows L2
section
variable {P : Program} {w : World} {K : PySem.W.Frag} {mg : Str → Option Value} {base : Heap} {CE CF CS CL CT CM CO : Addr}
theorem sc_law : FnScope ["_law_script", "_law_k", "_law_feed_here", "_law_lanes_here", "_law_some", "_law_film", "_law_first", "_law_last", "_law_idle", "_law_many", "_law_name", "_law_samples_here", "_law_pieces_here", "_law_one"] ["_law_script"] (defScope (top 58)) := ⟨rfl, rfl, rfl, by decide +kernel, rfl, by decide +kernel, by decide +kernel⟩
theorem ok_law (T : Tx K mg) (TF : ClF K CF) (N : NeT K CF) (D : Has K (dN "law" 58)) (g : mg "law" = some (.ref (He.fAd K ("law", none))))
    (G_feed : OkG P w K mg base 1 "_law_feed" ["_law_script", "_law_k"] (spFeed K)) (G_take : OkG P w K mg base 1 "_law_take" ["_law_feed_here", "_law_size"] spTake) (G_pick : OkG P w K mg base 2 "_law_pick" ["_law_feed_here", "_law_choices"] (spPick K))
    (G_big : OkG P w K mg base 2 "_law_big" ["_law_feed_here", "_law_size"] spBig) (G_lanes : OkG P w K mg base 4 "_law_lanes" ["_law_feed_here", "_law_most"] spMkLn) (G_great : OkG P w K mg base 3 "_law_great" ["_law_feed_here", "_law_lanes_here"] spGreat)
    (G_Film : OkN P w K mg base 9 CF "Film" ["self", "lanes"] (spFilmInit CE CF CT)) (G_eq : OkM P w K mg base 4 CF "__eq__" ["self", "other"] (spEq (FmSame CE CF))) (G_repeat : OkM P w K mg base 12 CF "repeat" ["self", "first", "last", "times"] (spFmRep CE CF CS CL CT))
    (G_is_right : OkG P w K mg base 14 "_law_is_right" ["_law_feed_here", "_law_film"] (spRight CE CF)) (G_is_too_long : OkG P w K mg base 13 "_law_is_too_long" ["_law_film", "_law_first", "_law_last", "_law_times"] (spTooLong CE CF))
    (G_first_error_right : OkQ P w K mg base 14 "_law_first_error_right" ["_law_feed_here", "_law_film", "_law_lanes_here"] (spFer CE CF)) (G_is_put_in : OkG P w K mg base 13 "_law_is_put_in" ["_law_film", "_law_lanes_here", "_law_at", "_law_more"] (spPutIn CE CF)) :
    OkQ P w K mg base 15 "law" ["_law_script"] (spLaw K) := by
  refine okQ D g sc_law (fun _ _ _ _ _ _ us hl => match us, hl with | [_], _ => rfl) (fun vs H Q E h => ?_) (fun f cdv A outer s H vs Q E gA hr h => ?_)
  · obtain ⟨a, ns, rfl, _⟩ := h
    rfl
  · obtain ⟨a, ns, rfl, hS, hns, q⟩ := h
    refine ⟨_, PSs.nox (pss_cons (ps_for PassesOwn.never rfl (pi_range1 rfl T.range (pa_cons (pe_callB (call_max2 rfl) (by rfl) T.max (by decide +kernel) (pa_cons pe_int (pa_cons (pe_callB (call_min2 rfl) (by rfl) T.min (by decide +kernel) (pa_cons pe_int (pa_cons (pe_callB call_len (by rfl) T.len PySem.boot_len (pa_cons (pv 0) pa_nil)) pa_nil))) pa_nil))) pa_nil)) (pg_name (i := 1) sc_law.nd rfl (Or.inl rfl))
        (pss_cons (ps_set (i := 2) sc_law.nd rfl (Or.inl rfl) (pe_cG G_feed (hr.mono (by decide)) rfl passL (pa_cons (pv 0) (pa_cons (pv 1) pa_nil))))
          (pss_cons (ps_set (i := 3) sc_law.nd rfl (Or.inl rfl) (pe_cG G_lanes (hr.mono (by decide)) rfl passL (pa_cons (pv 2) (pa_cons pe_int pa_nil))))
          (pss_one (ps_for PassesOwn.never rfl (pi_list (pe_lst (pa_cons (pv 3) (pa_cons (pe_cG G_great (hr.mono (by decide)) rfl passL (pa_cons (pv 2) (pa_cons (pv 3) pa_nil))) pa_nil)))) (pg_name (i := 4) sc_law.nd rfl (Or.inl rfl))
            (pss_cons (ps_set (i := 5) sc_law.nd rfl (Or.inl rfl) (pe_nG G_Film (hr.mono (by decide)) rfl passL (pa_cons (pv 4) pa_nil)))
              (pss_cons (ps_if (PW.pt (pw_or (pt_not (pt_val (pe_cG G_is_right (hr.mono (by decide)) rfl passL (pa_cons (pv 2) (pa_cons (pv 5) pa_nil))))) (pw_or1 (pt_cmpR (op_neG N G_eq (hr.mono (by decide))) (pv 5) (pe_nG G_Film (hr.mono (by decide)) rfl passL (pa_cons (pv 4) pa_nil)) (nomark _)))))
                (pss_one (ps_ret pe_bl))
                pss_nil)
              (pss_cons (ps_asg (pe_callB cr_sorted (by rfl) T.sorted (by decide +kernel) (pa_cons (pe_lst (pa_cons (pe_cG G_big (hr.mono (by decide)) rfl passL (pa_cons (pv 2) (pa_cons (pe_op op_add (pe_fld (pv 5) rfl) pe_int) pa_nil))) (pa_cons (pe_cG G_big (hr.mono (by decide)) rfl passL (pa_cons (pv 2) (pa_cons (pe_op op_add (pe_fld (pv 5) rfl) pe_int) pa_nil))) pa_nil))) pa_nil)) (pg_lst rfl (pgs_cons (pg_name (i := 6) sc_law.nd rfl (Or.inl rfl)) (pgs_cons (pg_name (i := 7) sc_law.nd rfl (Or.inl rfl)) pgs_nil))))
              (pss_cons (ps_if (pt_not (pt_val (pe_cG G_is_too_long (hr.mono (by decide)) rfl passL (pa_cons (pv 5) (pa_cons pe_int (pa_cons (pe_fld (pv 5) rfl) (pa_cons (pe_cG G_pick (hr.mono (by decide)) rfl passL (pa_cons (pv 2) (pa_cons (pe_lst (pa_cons pe_int (pa_cons pe_int (pa_cons pe_int (pa_cons pe_int pa_nil))))) pa_nil))) pa_nil)))))))
                (pss_one (ps_ret pe_bl))
                pss_nil)
              (pss_cons (ps_if (pt_not (pt_val (pe_cG G_is_too_long (hr.mono (by decide)) rfl passL (pa_cons (pv 5) (pa_cons (pv 6) (pa_cons (pv 7) (pa_cons (pe_cG G_pick (hr.mono (by decide)) rfl passL (pa_cons (pv 2) (pa_cons (pe_lst (pa_cons pe_int (pa_cons pe_int (pa_cons pe_int (pa_cons pe_int pa_nil))))) pa_nil))) pa_nil)))))))
                (pss_one (ps_ret pe_bl))
                pss_nil)
              (pss_cons (ps_if (pt_not (pt_val (pe_cQ G_first_error_right gA (hr.mono (by decide)) rfl passL (pa_cons (pv 2) (pa_cons (pv 5) (pa_cons (pv 3) pa_nil))))))
                (pss_one (ps_ret pe_bl))
                pss_nil)
              (pss_cons (ps_set (i := 8) sc_law.nd rfl (Or.inl rfl) (pe_nG G_Film (hr.mono (by decide)) rfl passL (pa_cons (pe_lc (own := [("_law_name", 10), ("_law_samples_here", 11), ("_law_pieces_here", 12)]) rfl sc_law.nd (pi_list (pv 3)) (blkOk_by (N := ["_law_script", "_law_k", "_law_feed_here", "_law_lanes_here", "_law_some", "_law_film", "_law_first", "_law_last", "_law_idle", "_law_many", "_law_name", "_law_samples_here", "_law_pieces_here", "_law_one"]) (sc := (defScope (top 58))) (by decide +kernel)) (fun _ _ _ _ _ => (pg_tupK (K := K) (n := 3) rfl (pgs_cons (pg_name (i := 10) sc_law.nd rfl (Or.inl rfl)) (pgs_cons (pg_name (i := 11) sc_law.nd rfl (Or.inl rfl)) (pgs_cons (pg_name (i := 12) sc_law.nd rfl (Or.inl rfl)) pgs_nil))))) (fun _ _ _ _ _ => pts_nil) (fun _ _ _ _ _ => (pe_tup (pa_cons (pv 10) (pa_cons (pv 11) (pa_cons (pe_lst (pa_cons (pe_tup (pa_cons pe_str (pa_cons pe_int pa_nil))) pa_nil)) pa_nil)))))) pa_nil)))
              (pss_cons (ps_set (i := 9) sc_law.nd rfl (Or.inr rfl) (pe_cG G_pick (hr.mono (by decide)) rfl passL (pa_cons (pv 2) (pa_cons (pe_lst (pa_cons pe_int (pa_cons pe_int (pa_cons pe_int (pa_cons pe_int pa_nil))))) pa_nil))))
              (pss_cons (ps_if (pt_cmpR (op_neG N G_eq (hr.mono (by decide))) (pe_mG (pv 8) G_repeat (hr.mono (by decide)) passL (pa_cons pe_int (pa_cons pe_int (pa_cons (pv 9) pa_nil)))) (pe_nG G_Film (hr.mono (by decide)) rfl passL (pa_cons (pe_lc (own := [("_law_one", 13)]) rfl sc_law.nd (pi_list (pv 3)) (blkOk_by (N := ["_law_script", "_law_k", "_law_feed_here", "_law_lanes_here", "_law_some", "_law_film", "_law_first", "_law_last", "_law_idle", "_law_many", "_law_name", "_law_samples_here", "_law_pieces_here", "_law_one"]) (sc := (defScope (top 58))) (by decide +kernel)) (fun _ _ _ _ _ => (pg_name (i := 13) sc_law.nd rfl (Or.inl rfl))) (fun _ _ _ _ _ => pts_nil) (fun _ _ _ _ _ => (pe_tup (pa_cons (pe_ix (ixTK (K := K)) (pv 13) pe_int (fun _ _ => rfl)) (pa_cons (pe_ix (ixTK (K := K)) (pv 13) pe_int (fun _ _ => rfl)) (pa_cons (pe_lst (pa_cons (pe_tup (pa_cons pe_str (pa_cons (pe_op op_add pe_int (pe_op op_mul pe_int (pv 9))) pa_nil))) pa_nil)) pa_nil)))))) pa_nil)) (nomark _))
                (pss_one (ps_ret pe_bl))
                pss_nil)
              (pss_one (ps_if (pt_cmpR op_gt (pe_fld (pv 5) rfl) pe_int (nomark _))
                (pss_one (ps_if (pt_not (pt_val (pe_cG G_is_put_in (hr.mono (by decide)) rfl passL (pa_cons (pv 5) (pa_cons (pv 4) (pa_cons (pe_cG G_take (hr.mono (by decide)) rfl passL (pa_cons (pv 2) (pa_cons (pe_op op_add (pe_fld (pv 5) rfl) pe_int) pa_nil))) (pa_cons (pe_cG G_pick (hr.mono (by decide)) rfl passL (pa_cons (pv 2) (pa_cons (pe_lst (pa_cons pe_int (pa_cons pe_int (pa_cons pe_int (pa_cons pe_int pa_nil))))) pa_nil))) pa_nil)))))))
                    (pss_one (ps_ret pe_bl))
                    pss_nil))
                pss_nil))))))))))))))))
      (pss_one (ps_ret pe_bl))), ?_⟩
    have lz : ∀ k : Nat, k ≤ 100000 → k ≤ sizeLine := fun k hk => by rw [sizeLine_eq]; omega
    have MX : MAXL = 1000000000 := rfl
    have fne : ∀ {H1 : Hp} {c fl : Addr}, FeedAt H1 fl → H1 c = none → c ≠ fl := fun hF hc z => by
      obtain ⟨_, _, _, _, e⟩ := hF
      rw [← z, hc] at e
      cases e
    obtain ⟨kk, hkk, hk4⟩ : ∃ kk : Nat, (if (if ((ns.length : Nat) : Int) < 4 then ((ns.length : Nat) : Int) else 4) > 1 then (if ((ns.length : Nat) : Int) < 4 then ((ns.length : Nat) : Int) else 4) else 1) = (kk : Int) ∧ kk ≤ 4 := by
      by_cases z1 : ((ns.length : Nat) : Int) < 4
      · rw [if_pos z1]
        by_cases z2 : ((ns.length : Nat) : Int) > 1
        · exact ⟨ns.length, by rw [if_pos z2], by omega⟩
        · exact ⟨1, by rw [if_neg z2]; rfl, by decide⟩
      · rw [if_neg z1]
        exact ⟨4, by rw [if_pos (by decide)]; rfl, by decide⟩
    refine ⟨_, rfl, _, ns.length, rfl, .inl ⟨_, hS, by rw [List.length_map]⟩, _, _, rfl, _, _, rfl, _, rfl, ?_, ?_, for_it (walk_range (lo := 0)) (fun i σ H1 => ∃ v1 v2 v3 v4 v5 v6 v7 v8 v9 v10 v11 v12 v13 : Option V, σ = [some (.ref a), v1, v2, v3, v4, v5, v6, v7, v8, v9, v10, v11, v12, v13] ∧ Same H H1) ?_ (fun _ _ _ _ _ => True.intro) ?_ ?_⟩
    · rw [hkk]
      omega
    · rw [hkk]
      omega
    · exact ⟨_, _, _, _, _, _, _, _, _, _, _, _, _, rfl, fun _ _ z => z⟩
    · rintro i y σ Hz H1 hi ⟨v1, v2, v3, v4, v5, v6, v7, v8, v9, v10, v11, v12, v13, rfl, s0⟩ ⟨rfl, rfl⟩
      rw [hkk] at hi
      have hi4 : i < 4 := by omega
      refine ⟨_, rfl, _, rfl, ?_⟩
      dsimp only [tNil]
      refine ⟨a, ns, i, by simp, sqL_same hS s0, by omega, by omega, fun H2 fl s1 nfl f2 => ?_⟩
      refine ⟨_, rfl, fl, rfl, f2, fun H3 la ls n k3 f3 hL lok hn nst nla => ?_⟩
      refine ⟨_, rfl, _, rfl, _, rfl, fl, la, ls, n, rfl, f3, hL, lok, hn, nla, fun H4 lb ls' m k4 f4 hL' lok' hm en' es' mm22 nlb => ⟨lz 2 (by decide), fun lc hlc => ?_⟩⟩
      have s5 := Same.new (o := .lst [.ref la, .ref lb]) hlc
      have nlc := fne f4 hlc
      have f5 := f4.keep s5
      have hL5 : LanesAt (upd H4 lc (.lst [.ref la, .ref lb])) la ls := (hL.keep (k4.f f3)).keep (.of s5)
      have hL5' : LanesAt (upd H4 lc (.lst [.ref la, .ref lb])) lb ls' := hL'.keep (.of s5)
      have elc : (upd H4 lc (.lst [.ref la, .ref lb])) lc = some (.lst [.ref la, .ref lb]) := upd_same
      have kH : ∀ {Hf : Hp}, SameX fl (upd H4 lc (.lst [.ref la, .ref lb])) Hf → Same H Hf := fun {Hf} k b o e => by
        have e1 := s0 b o e
        have nb : b ≠ fl := ne_of_none e1 nfl
        exact k b o (s5 b o (k4 b o (k3 b o (s1 b o e1) nb) nb)) nb
      have two : ∀ y ∈ [V.ref la, .ref lb], ∃ (b : Addr) (ls2 : List Ln) (n2 : Nat), y = .ref b ∧ b ≠ fl ∧ LanesAt (upd H4 lc (.lst [.ref la, .ref lb])) b ls2 ∧ LsOk ls2 n2 ∧ n2 ≤ 100000027 ∧ MmLe (ls2.map Ln.fl) 22 ∧ ls.map Ln.nm = ls2.map Ln.nm ∧ ls.map Ln.ss = ls2.map Ln.ss := by
        intro y hy
        simp only [List.mem_cons, List.not_mem_nil, or_false] at hy
        rcases hy with rfl | rfl
        · exact ⟨la, ls, n, rfl, nla, hL5, lok, by omega, lanes_mm lok hn, rfl, rfl⟩
        · refine ⟨lb, ls', n + m, rfl, nlb, hL5', lok', by omega, fun f hf => ?_, en'.symm, es'.symm⟩
          obtain ⟨l, hl, rfl⟩ := List.mem_map.mp hf
          exact mm22 l hl
      obtain ⟨Hi, eHi⟩ : ∃ Hi, Hi = upd H4 lc (.lst [.ref la, .ref lb]) := ⟨_, rfl⟩
      rw [← eHi] at f5 hL5 hL5' elc kH two
      refine ⟨lc, rfl, ⟨_, SqL.of upd_same⟩, for_it (walk_list (K := K) (xs := [.ref la, .ref lb])) (fun j σ H1 => ∃ v1 v4 v5 v6 v7 v8 v9 v10 v11 v12 v13 : Option V, σ = [some (.ref a), v1, some (.ref fl), some (.ref la), v4, v5, v6, v7, v8, v9, v10, v11, v12, v13] ∧ SameX fl Hi H1 ∧ FeedAt H1 fl) ?_ ?_ ?_ ?_⟩
      · exact ⟨_, _, _, _, _, _, _, _, _, _, _, rfl, by rw [eHi]; exact fun _ _ z _ => z, by rw [eHi] at f5; exact f5⟩
      · rintro j σ H1 _ ⟨_, _, _, _, _, _, _, _, _, _, _, _, k6, _⟩
        exact SqL.of (k6 _ _ elc nlc)
      · rintro j y σ Hy Ha hj ⟨u1, u4, u5, u6, u7, u8, u9, u10, u11, u12, u13, rfl, k6, f6⟩ ⟨rfl, ey⟩
        obtain ⟨b, ls2, n2, rfl, nb, hLb, lokb, hn2, mmb, enb, esb⟩ := two y (List.mem_of_getElem? ey)
        have okb : FsOk (ls2.map Ln.fl) n2 := fl_ok lokb (by decide) mmb
        have fewb := fl_few (by decide) mmb
        have hLb6 := hLb.keep (k6.f f5)
        refine ⟨_, rfl, ?_⟩
        dsimp only [tNil]
        refine fm_makeA (a := b) hLb6 lokb fewb fun H7 x s7 hx => ?_
        have f7 := f6.keep s7
        -- is_right
        refine ⟨_, rfl, _, rfl, ?_⟩
        dsimp only [tNil]
        refine ⟨fl, x, _, n2, rfl, f7, hx, okb, mmb, by omega, fun H8 k8 f8 => ?_⟩
        -- film != Film(some)
        have hLb8 := (hLb6.keep (.of s7)).keep (k8.f f7)
        have hx8 := hx.keep (k8.f f7)
        refine ⟨_, rfl, _, rfl, _, rfl, ?_⟩
        dsimp only [tNil]
        refine fm_makeA (a := b) hLb8 lokb fewb fun H9 x' s9 hx' => ?_
        have f9 := f8.keep s9
        have hx9 := hx8.same s9
        refine ne_film hx9 hx' okb fun H10 s10 => ⟨_, rfl, ?_⟩
        have f10 := f9.keep s10
        have hx10 := hx9.same s10
        obtain ⟨dx, tn, dk0, de, ex10⟩ := hx10.ins
        -- first, last
        refine ⟨_, rfl, _, rfl, x, CF, dx, _, _, rfl, ex10, TF.cl, TF.nL, fmF_l, _, _, rfl, rfl, ?_⟩
        dsimp only [tNil]
        refine ⟨fl, _, rfl, by omega, f10, fun H11 b1 k11 f11 b1a b1b => ?_⟩
        have hx11 := hx10.keep (k11.f f10)
        obtain ⟨dx', tn', dk0', de', ex11⟩ := hx11.ins
        refine ⟨_, rfl, _, rfl, x, CF, dx', _, _, rfl, ex11, TF.cl, TF.nL, fmF_l, _, _, rfl, rfl, ?_⟩
        dsimp only [tNil]
        refine ⟨fl, _, rfl, by omega, f11, fun H12 b2 k12 f12 b2a b2b => ⟨lz 2 (by decide), fun lq hlq => ?_⟩⟩
        have s13 := Same.new (o := .lst [.int b1, .int b2]) hlq
        refine ⟨lq, [b1, b2], rfl, SqL.of upd_same, by show 2 < 64; decide, fun ns' p hp hs hpn => ?_⟩
        obtain ⟨c1, c2, rfl, hc12, hc2⟩ := two_of (n := n2) hp hs ⟨b1a, b1b⟩ ⟨b2a, b2b⟩
        have s14 := Same.new (o := .lst ([(c1 : Int), (c2 : Int)].map V.int)) hpn
        refine ⟨p, _, rfl, SqL.of upd_same, rfl, _, _, rfl, _, _, rfl, rfl, ?_⟩
        have f14 := (f12.keep s13).keep s14
        have hx14 := ((hx11.keep (k12.f f11)).same s13).same s14
        have k614 : SameX fl Hi (upd (upd H12 lq (.lst [.int b1, .int b2])) p (.lst ([(c1 : Int), (c2 : Int)].map V.int))) := ((((((((k6.trans (.of s7)).trans k8).trans (.of s9)).trans (.of s10)).trans k11).trans k12).trans (.of s13)).trans (.of s14))
        generalize upd (upd H12 lq (.lst [.int b1, .int b2])) p (.lst ([(c1 : Int), (c2 : Int)].map V.int)) = H14 at f14 hx14 k614 ⊢
        have m60 : MmLe (ls2.map Ln.fl) 60 := mmb.mono (by decide)
        have t1 : ∀ v : V, v ∈ [V.int 2, .int 9, .int 10, .int 11] → ∃ t : Nat, v = .int t ∧ t ≤ 100 := fun v hv => by
          simp only [List.mem_cons, List.not_mem_nil, or_false] at hv
          rcases hv with rfl | rfl | rfl | rfl
          · exact ⟨2, rfl, by decide⟩
          · exact ⟨9, rfl, by decide⟩
          · exact ⟨10, rfl, by decide⟩
          · exact ⟨11, rfl, by decide⟩
        have t2 : ∀ v : V, v ∈ [V.int 2, .int 9, .int 12, .int 15] → ∃ t : Nat, v = .int t ∧ t ≤ 100 := fun v hv => by
          simp only [List.mem_cons, List.not_mem_nil, or_false] at hv
          rcases hv with rfl | rfl | rfl | rfl
          · exact ⟨2, rfl, by decide⟩
          · exact ⟨9, rfl, by decide⟩
          · exact ⟨12, rfl, by decide⟩
          · exact ⟨15, rfl, by decide⟩
        -- is_too_long, all
        obtain ⟨d14, tn14, dk14, de14, ex14⟩ := hx14.ins
        refine ⟨_, rfl, _, rfl, x, CF, d14, _, _, rfl, ex14, TF.cl, TF.nL, fmF_l, _, rfl, lz 4 (by decide), fun lp hlp => ?_⟩
        dsimp only [tNil]
        refine pick_call f14 hlp (by show 1 ≤ 4; decide) (by show 4 ≤ 1000; decide) fun H15 v k15 f15 hv => ?_
        obtain ⟨t, rfl, ht⟩ := t1 v hv
        have hx15 := hx14.keep (k15.f f14)
        refine ⟨x, _, n2, 0, n2, t, rfl, hx15, okb, m60, Nat.zero_le _, Nat.le_refl _, ht, fun H16 s16 => ⟨_, rfl, ?_⟩⟩
        have f16 := f15.keep s16
        have hx16 := hx15.same s16
        -- is_too_long, a part
        refine ⟨_, rfl, _, rfl, _, rfl, _, rfl, lz 4 (by decide), fun lp2 hlp2 => ?_⟩
        dsimp only [tNil]
        refine pick_call f16 hlp2 (by show 1 ≤ 4; decide) (by show 4 ≤ 1000; decide) fun H17 v' k17 f17 hv' => ?_
        obtain ⟨t', rfl, ht'⟩ := t2 v' hv'
        have hx17 := hx16.keep (k17.f f16)
        refine ⟨x, _, n2, c1, c2, t', rfl, hx17, okb, m60, hc12, by omega, ht', fun H18 s18 => ⟨_, rfl, ?_⟩⟩
        have f18 := f17.keep s18
        have hx18 := hx17.same s18
        have k618 : SameX fl Hi H18 := (((k614.trans k15).trans (.of s16)).trans k17).trans (.of s18)
        -- first_error_right
        refine ⟨_, rfl, _, rfl, _, rfl, ?_⟩
        dsimp only [tNil]
        refine ⟨fl, x, la, _, ls, n2, n, rfl, f18, hx18, okb, mmb, by omega, hL5.keep (k618.f f5), lok, by rw [fl_nm]; exact enb, by rw [fl_ss]; exact esb, nst, fun H19 k19 f19 => ⟨_, rfl, ?_⟩⟩
        have k619 := k618.trans k19
        have hx19 := hx18.keep (k19.f f18)
        obtain ⟨rs, eL19, hR19⟩ := hL5.keep (k619.f f5)
        -- idle
        refine ⟨_, rfl, la, rfl, ⟨_, SqL.of eL19⟩, fun D1 hD1 => ?_⟩
        refine lc_lanes (K := K) (noL 7) eL19 hR19 lok.four hD1 ?_ ?_
        · rintro G2 acc r l s2 eD ⟨sa, pa, nsa, npa, w0, w1, w2⟩ Nv hN
          refine ⟨r, _, rfl, SqT.of w0, rfl, _, _, rfl, _, _, rfl, _, _, rfl, rfl, rfl, _, rfl, _, rfl, lz 2 (by decide), fun tu htu => ⟨lz 1 (by decide), fun l5 hl5 => ⟨lz 3 (by decide), fun tv htv => ?_⟩⟩⟩
          obtain ⟨z1, z2⟩ := lane_new (ps := [.no (7 : Nat)]) (Same.new htu) eD nsa w1 hl5 (.cons upd_same .nil) htv rfl
          exact hN _ _ z1 z2
        intro H20 s20 hL20
        have lk7 : LsOk (ls.map (noL 7)) 7 := noL_ok lok (by decide) (by decide)
        refine fm_makeA (a := D1) hL20 lk7 (fl_few (by decide) noL_mm) fun H21 xi s21 hxi => ?_
        have ok7 : FsOk ((ls.map (noL 7)).map Ln.fl) 7 := fl_ok lk7 (by decide) noL_mm
        have s19 := s20.trans s21
        have f21 := f19.keep s19
        -- many
        refine ⟨_, rfl, lz 4 (by decide), fun lp3 hlp3 => ?_⟩
        dsimp only [tNil]
        refine pick_call f21 hlp3 (by show 1 ≤ 4; decide) (by show 4 ≤ 1000; decide) fun H22 v3 k22 f22 hv3 => ?_
        obtain ⟨t3, rfl, ht1, ht3⟩ : ∃ t : Nat, v3 = .int t ∧ 1 ≤ t ∧ t ≤ 100 := by
          simp only [List.mem_cons, List.not_mem_nil, or_false] at hv3
          rcases hv3 with rfl | rfl | rfl | rfl
          · exact ⟨100, rfl, by decide, by decide⟩
          · exact ⟨99, rfl, by decide, by decide⟩
          · exact ⟨12, rfl, by decide, by decide⟩
          · exact ⟨40, rfl, by decide, by decide⟩
        have hxi22 := hxi.keep (k22.f f21)
        obtain ⟨di, tni, dki, dei, exi⟩ := hxi22.ins
        -- idle.repeat
        refine ⟨_, rfl, xi, di, _, rfl, exi, fmF_rep, _, rfl, ?_⟩
        dsimp only [tNil, tCons, tC]
        refine rep_call (a := 2) (b := 5) (t := t3) hxi22 ok7 (by decide) (by decide) ht3 ((noL_mm (ls := ls)).mono (by decide)) (by omega) (fun f hf => ?_) fun H23 yi s23 hyi => ?_
        · obtain ⟨l', hl', rfl⟩ := List.mem_map.mp hf
          obtain ⟨l, hl, rfl⟩ := List.mem_map.mp hl'
          refine few_mm ?_
          show mm false (repL (dens [.no ((7 : Nat) : Int)]) 2 5 t3) ≤ 60
          rw [dens_no, rep_none (m := 0)]
          have := mm_no (4 + 3 * t3)
          omega
        rw [idle_rep] at hyi
        have e43 : 7 - (5 - 2) + t3 * (5 - 2) = 4 + 3 * t3 := by omega
        rw [e43] at hyi
        have k623 : SameX fl Hi H23 := ((k619.trans (.of s19)).trans k22).trans (.of s23)
        have f23 := f22.keep s23
        obtain ⟨rs2, eL23, hR23⟩ := hL5.keep (k623.f f5)
        refine ⟨_, rfl, la, rfl, ⟨_, SqL.of eL23⟩, fun D2 hD2 => ?_⟩
        refine lc_lanes (K := K) (noL (4 + 3 * t3)) eL23 hR23 lok.four hD2 ?_ ?_
        · rintro G2 acc r l s2 eD ⟨sa, pa, nsa, npa, w0, w1, w2⟩ Nv hN
          refine ⟨rfl, _, rfl, r, _, _, _, rfl, rfl, SqT.of w0, at0 rfl, _, rfl, r, _, _, _, rfl, rfl, SqT.of w0, at1 rfl, _, rfl, _, _, rfl, rfl, .inr ⟨by omega, by omega⟩, _, _, rfl, rfl, lz 2 (by decide), fun tu htu => ⟨lz 1 (by decide), fun l5 hl5 => ⟨lz 3 (by decide), fun tv htv => ?_⟩⟩⟩
          have eV : (4 : Int) + 3 * (t3 : Int) = ((4 + 3 * t3 : Nat) : Int) := by omega
          obtain ⟨z1, z2⟩ := lane_new (ps := [.no ((4 + 3 * t3 : Nat) : Int)]) (Same.new htu) eD nsa w1 hl5 (.cons (by dsimp only; rw [eV]; exact upd_same) .nil) htv rfl
          exact hN _ _ z1 z2
        intro H24 s24 hL24
        have lk4 : LsOk (ls.map (noL (4 + 3 * t3))) (4 + 3 * t3) := noL_ok lok (by omega) (by omega)
        refine fm_makeA (a := D2) hL24 lk4 (fl_few (by decide) noL_mm) fun H25 yj s25 hyj => ?_
        have ok4 : FsOk ((ls.map (noL (4 + 3 * t3))).map Ln.fl) (4 + 3 * t3) := fl_ok lk4 (by decide) noL_mm
        refine ne_film ((hyi.same s24).same s25) hyj ok4 fun H26 s26 => ⟨_, rfl, ?_⟩
        have f26 := ((f23.keep s24).keep s25).keep s26
        have k626 : SameX fl Hi H26 := ((k623.trans (.of s24)).trans (.of s25)).trans (.of s26)
        have hx26 := (((((hx19.same s19).keep (k22.f f21)).same s23).same s24).same s25).same s26
        obtain ⟨d26, tn26, dk26, de26, ex26⟩ := hx26.ins
        -- put_in
        refine ⟨_, rfl, x, CF, d26, _, _, rfl, ex26, TF.cl, TF.nL, fmF_l, _, _, rfl, rfl, _, rfl, ?_⟩
        refine ite2 (fun g2 => ?_) (fun _ => ⟨_, _, _, _, _, _, _, _, _, _, _, rfl, k626, f26⟩)
        have g2 : (2 : Int) < n2 := of_decide_eq_true g2
        refine ⟨_, rfl, _, rfl, _, rfl, _, rfl, x, CF, d26, _, _, rfl, ex26, TF.cl, TF.nL, fmF_l, _, _, rfl, rfl, ?_⟩
        dsimp only [tNil]
        refine ⟨fl, _, rfl, by omega, by omega, f26, fun H27 va k27 f27 va0 va1 => ?_⟩
        obtain ⟨at', rfl⟩ := Int.eq_ofNat_of_zero_le va0
        refine ⟨_, rfl, lz 4 (by decide), fun lp4 hlp4 => ?_⟩
        dsimp only [tNil]
        refine pick_call f27 hlp4 (by show 1 ≤ 4; decide) (by show 4 ≤ 1000; decide) fun H28 v4 k28 f28 hv4 => ?_
        obtain ⟨t4, rfl, ht4⟩ : ∃ t : Nat, v4 = .int t ∧ t ≤ 2 := by
          simp only [List.mem_cons, List.not_mem_nil, or_false] at hv4
          rcases hv4 with rfl | rfl | rfl | rfl
          · exact ⟨0, rfl, by decide⟩
          · exact ⟨0, rfl, by decide⟩
          · exact ⟨1, rfl, by decide⟩
          · exact ⟨2, rfl, by decide⟩
        have k628 := (k626.trans k27).trans k28
        refine ⟨x, b, _, ls2, n2, n2, at', t4, rfl, (hx26.keep (k27.f f26)).keep (k28.f f27), okb, mmb, hLb.keep (k628.f f5), lokb, (fl_nm _).symm, (fl_ss _).symm, by omega, by omega, by omega, ht4, fun H29 s29 => ⟨_, rfl, ?_⟩⟩
        exact ⟨_, _, _, _, _, _, _, _, _, _, _, rfl, k628.trans (.of s29), f28.keep s29⟩
      · rintro σ H1 ⟨_, _, _, _, _, _, _, _, _, _, _, rfl, k6, f6⟩
        exact ⟨_, _, _, _, _, _, _, _, _, _, _, _, _, rfl, kH k6⟩
    · rintro σ H1 ⟨v1, v2, v3, v4, v5, v6, v7, v8, v9, v10, v11, v12, v13, rfl, s0⟩
      exact q _
end
end K24

/-! part HF -/
set_option Elab.async false
set_option linter.all false
set_option maxRecDepth 100000
set_option maxHeartbeats 4000000
namespace K24
open PySem PySem.Spec PyProof.Rows L2
/-! ### the head's facts -/
def fn : List He.DefD := [
  dN "is_integer" 12,
  dN "is_piece" 15,
  dN "length_of" 16,
  dN "play" 17,
  dN "with_piece" 18,
  dN "taken_by" 19,
  dN "as_far_as_they_can" 20,
  dN "sampled" 21,
  dN "is_name" 31,
  dN "is_sample" 32,
  dN "are_samples" 33,
  dN "edits_of" 34,
  dN "stays_in" 35,
  dN "read_lane" 36,
  dN "read_lanes" 37,
  dN "_law_feed" 40,
  dN "_law_take" 41,
  dN "_law_pick" 42,
  dN "_law_big" 43,
  dN "_law_samples" 44,
  dN "_law_pieces" 45,
  dN "_law_lanes" 46,
  dN "_law_moments" 47,
  dN "_law_told" 49,
  dN "_law_great" 50,
  dN "_law_spots" 51,
  dN "_law_stretch" 52,
  dN "_law_is_right" 53,
  dN "_law_is_put_in" 54,
  dN "_law_is_too_long" 55,
  dN "_law_error" 56,
  dN "_law_first_error_right" 57,
  dN "law" 58,
  dM "Edits" "__init__" "Edits.__init__" 22 0,
  dM "Edits" "__eq__" "Edits.__eq__" 22 1,
  dM "Edits" "check_stretch" "Edits.check_stretch" 22 4,
  dM "Edits" "stretch" "Edits.stretch" 22 5,
  dM "Edits" "cut" "Edits.cut" 22 6,
  dM "Edits" "faster" "Edits.faster" 22 7,
  dM "Film" "__init__" "Film.__init__" 38 0,
  dM "Film" "__eq__" "Film.__eq__" 38 1,
  dM "Film" "with_edits" "Film.with_edits" 38 7,
  dM "Film" "check_length" "Film.check_length" 38 8,
  dM "Film" "check_stretch" "Film.check_stretch" 38 9,
  dM "Film" "cut" "Film.cut" 38 10,
  dM "Film" "faster" "Film.faster" 38 11,
  dM "Film" "repeat" "Film.repeat" 38 12,
  dM "Film" "put_in" "Film.put_in" 38 13,
  dM "TooManyPieces" "__init__" "TooManyPieces.__init__" 4 0,
  dM "TooLong" "__init__" "TooLong.__init__" 5 0,
  dM "BadStretch" "__init__" "BadStretch.__init__" 6 0,
  dM "BadMoment" "__init__" "BadMoment.__init__" 7 0]
def fa : List He.Fa := [
  .free "isinstance", .free "len", .free "sum", .free "tuple",
  .free "list", .free "dict", .free "zip", .free "max",
  .free "min", .free "int", .free "bool", .free "str",
  .free "enumerate", .free "all", .free "range", .free "abs",
  .free "sorted", .free "repr", .int "MAX_LENGTH" 1000000000, .int "MAX_LANES" 4,
  .int "MAX_NAME" 8, .int "MAX_SAMPLES" 40, .int "MAX_PIECES" 60, .int "MAX_SIZE" 1000000000,
  .int "MAX_TICKS" 1000000, .str "LETTERS" "abcdefghijklmnopqrstuvwxyz", .glo "is_integer", .glo "is_piece",
  .glo "length_of", .glo "play", .glo "with_piece", .glo "taken_by",
  .glo "as_far_as_they_can", .glo "sampled", .glo "is_name", .glo "is_sample",
  .glo "are_samples", .glo "edits_of", .glo "stays_in", .glo "read_lane",
  .glo "read_lanes", .glo "_law_feed", .glo "_law_take", .glo "_law_pick",
  .glo "_law_big", .glo "_law_samples", .glo "_law_pieces", .glo "_law_lanes",
  .glo "_law_moments", .glo "_law_told", .glo "_law_great", .glo "_law_spots",
  .glo "_law_stretch", .glo "_law_is_right", .glo "_law_is_put_in", .glo "_law_is_too_long",
  .glo "_law_error", .glo "_law_first_error_right", .glo "law", .glo "Edits",
  .glo "Film", .glo "TooManyPieces", .glo "TooLong", .glo "BadStretch",
  .glo "BadMoment", .glo "OtherLanes", .cls "Edits", .cls "Film",
  .noat "Edits" "pieces", .noat "Edits" "length", .noat "Film" "names", .noat "Film" "kept_samples",
  .noat "Film" "kept_edits", .noat "Film" "length", .noat "BadStretch" "first", .noat "BadStretch" "last",
  .noat "BadMoment" "moment", .noat "TooLong" "found", .noat "TooManyPieces" "found", .meth "Edits" "__eq__",
  .meth "Edits" "check_stretch", .meth "Edits" "stretch", .meth "Edits" "cut", .meth "Edits" "faster",
  .mkr "Edits", .meth "Film" "__eq__", .meth "Film" "with_edits", .meth "Film" "check_length",
  .meth "Film" "check_stretch", .meth "Film" "cut", .meth "Film" "faster", .meth "Film" "repeat",
  .meth "Film" "put_in", .mkr "Film", .exc "OtherLanes", .exm "BadStretch" "BadStretch" true,
  .exm "BadMoment" "BadStretch" false, .exm "BadMoment" "BadMoment" true, .exm "OtherLanes" "BadStretch" false, .exm "OtherLanes" "BadMoment" false,
  .exm "OtherLanes" "OtherLanes" true, .exm "TooLong" "BadStretch" false, .exm "TooLong" "BadMoment" false, .exm "TooLong" "OtherLanes" false,
  .exm "TooLong" "TooLong" true, .exm "TooManyPieces" "TooLong" false, .exm "TooManyPieces" "TooManyPieces" true]
/-- the class of an own exception with an __init__ -/
def oexB (K : PySem.W.Frag) (C : Addr) : Bool := (match K.lookup C with
    | some ⟨.type "type", _, .cls cd, sl⟩ => (match cd.mro, sl.toList with
      | .ref C1 :: up, [_, _, _, _, some (.builtin nw), _] => C1 == C && (nw == "ValueError.__new__" && (!cd.hasDel && (cd.hasDict && PySem.HandSPX.refsVE up)))
      | _, _ => false)
    | _ => false) && (He.eqO (PySem.W.findIn K (.ref C) "__setattr__") (some (some (.builtin "object.__setattr__"))) && (decide (PySem.W.subIn K (.ref C) (.type "BaseException") = some true) && (decide (PySem.W.typeIn K (.ref C) = some (.type "type")) && PySem.W.keepIn K (.ref C))))
theorem oexB_ok {K : PySem.W.Frag} {C : Addr} (h : oexB K C = true) : OexC K C := by
  obtain ⟨h0, h⟩ := He.ba h
  obtain ⟨h1, h⟩ := He.ba h
  obtain ⟨h2, h⟩ := He.ba h
  obtain ⟨h3, h4⟩ := He.ba h
  refine ⟨?_, He.eqO_ok h1, of_decide_eq_true h2, of_decide_eq_true h3, h4⟩
  split at h0
  · rename_i dd cd sl lk
    split at h0
    · rename_i C1 up k0 k1 k2 k3 nw k5 em es
      simp only [Bool.and_eq_true, beq_iff_eq, Bool.not_eq_true'] at h0
      obtain ⟨z1, z2, z3, z4, z5⟩ := h0
      subst z1 z2
      obtain ⟨y1, y2, y3, y4, y5, y6, y7, y8, y9, y10, y11⟩ := cd
      dsimp only at em z3 z4
      subst em z3 z4
      have e : sl = #[k0, k1, k2, k3, some (.builtin "ValueError.__new__"), k5] := by
        cases sl
        exact congrArg Array.mk es
      subst e
      exact ⟨_, _, _, _, _, _, _, _, _, _, _, _, _, _, _, lk, z5⟩
    · cases h0
  · cases h0
/-- an own exception with an __init__: made, its fields read -/
def extB (K : PySem.W.Frag) (x : Str) : Bool := oexB K (He.ga K x) && (He.eqO (PySem.W.findIn K (.ref (He.ga K x)) "__init__") (some (some (.ref (He.fAd K (x, some "__init__"))))) && (decide (PySem.W.typeIn K (.ref (He.fAd K (x, some "__init__"))) = some (.type "function")) && xfB K (He.ga K x)))
theorem extB_ok {K : PySem.W.Frag} {mg : Str → Option Value} {x : Str} (h : extB K x = true) (g : mg x = some (.ref (He.ga K x))) : ExT K mg (He.ga K x) x := by
  obtain ⟨h1, h⟩ := He.ba h
  obtain ⟨h2, h⟩ := He.ba h
  obtain ⟨h3, h4⟩ := He.ba h
  exact ⟨oexB_ok h1, He.eqO_ok h2, of_decide_eq_true h3, g, xfB_ok h4⟩
def neB (K : PySem.W.Frag) (C : Addr) : Bool := He.eqO (PySem.W.findIn K (.ref C) "__ne__") (some (some (.builtin "object.__ne__"))) && decide (PySem.W.mroIn K C (.type "object") = some true)
theorem neB_ok {K : PySem.W.Frag} {C : Addr} (h : neB K C = true) : NeT K C := by
  obtain ⟨h1, h2⟩ := He.ba h
  exact ⟨He.eqO_ok h1, of_decide_eq_true h2⟩
def insB (K : PySem.W.Frag) (C : Addr) : Bool := He.eqO (PySem.W.findIn K (.ref C) "__class__") (some (some (.builtin "object.__class__"))) && (decide (PySem.W.specialIn K (.builtin "object.__class__") "__get__" = some (some (.builtin "getset_descriptor.__get__"))) && (decide (PySem.W.takesIn K (.builtin "object.__class__") = some true) && decide (PySem.W.mroIn K C (.type "object") = some true)))
theorem insB_ok {K : PySem.W.Frag} {C : Addr} (h : insB K C = true) : InsT K C := by
  obtain ⟨h1, h⟩ := He.ba h
  obtain ⟨h2, h⟩ := He.ba h
  obtain ⟨h3, h4⟩ := He.ba h
  exact ⟨He.eqO_ok h1, of_decide_eq_true h2, of_decide_eq_true h3, of_decide_eq_true h4⟩
def more (K : PySem.W.Frag) : Bool := extB K "TooManyPieces" && (extB K "TooLong" && (extB K "BadStretch" && (extB K "BadMoment" && (neB K (He.ga K "Film") && (insB K (He.ga K "Edits") && insB K (He.ga K "Film"))))))
theorem facts {P : Program} {w : World} {K : PySem.W.Frag} {h : Heap} {mg : Str → Option Value} (X : K.In h) (G : h.Ns mainGlobals mg) (c : He.SaysD fa fn K) (e : more K = true) : ∀ base : Heap, OkQ P w K mg base 15 "law" ["_law_script"] (spLaw K) := by
  intro base
  obtain ⟨e1, e⟩ := He.ba e
  obtain ⟨e2, e⟩ := He.ba e
  obtain ⟨e3, e⟩ := He.ba e
  obtain ⟨e4, e⟩ := He.ba e
  obtain ⟨e5, e⟩ := He.ba e
  obtain ⟨e6, e7⟩ := He.ba e
  have T : Tx K mg := ⟨He.free_ok X G (c.fact 0 (f := .free "isinstance") rfl), He.free_ok X G (c.fact 1 (f := .free "len") rfl), He.free_ok X G (c.fact 2 (f := .free "sum") rfl), He.free_ok X G (c.fact 3 (f := .free "tuple") rfl), He.free_ok X G (c.fact 4 (f := .free "list") rfl), He.free_ok X G (c.fact 5 (f := .free "dict") rfl), He.free_ok X G (c.fact 6 (f := .free "zip") rfl), He.free_ok X G (c.fact 7 (f := .free "max") rfl), He.free_ok X G (c.fact 8 (f := .free "min") rfl), He.free_ok X G (c.fact 9 (f := .free "int") rfl), He.free_ok X G (c.fact 10 (f := .free "bool") rfl), He.free_ok X G (c.fact 11 (f := .free "str") rfl), He.free_ok X G (c.fact 12 (f := .free "enumerate") rfl), He.free_ok X G (c.fact 13 (f := .free "all") rfl), He.free_ok X G (c.fact 14 (f := .free "range") rfl), He.free_ok X G (c.fact 15 (f := .free "abs") rfl), He.free_ok X G (c.fact 16 (f := .free "sorted") rfl), He.free_ok X G (c.fact 17 (f := .free "repr") rfl), He.int_ok X G (c.fact 18 (f := .int "MAX_LENGTH" 1000000000) rfl), He.int_ok X G (c.fact 19 (f := .int "MAX_LANES" 4) rfl), He.int_ok X G (c.fact 20 (f := .int "MAX_NAME" 8) rfl), He.int_ok X G (c.fact 21 (f := .int "MAX_SAMPLES" 40) rfl), He.int_ok X G (c.fact 22 (f := .int "MAX_PIECES" 60) rfl), He.int_ok X G (c.fact 23 (f := .int "MAX_SIZE" 1000000000) rfl), He.int_ok X G (c.fact 24 (f := .int "MAX_TICKS" 1000000) rfl), He.str_ok X G (c.fact 25 (f := .str "LETTERS" "abcdefghijklmnopqrstuvwxyz") rfl)⟩
  have TE : ClE K mg (He.ga K "Edits") := ⟨(He.cls_ok (K := K) (c.fact 66 (f := .cls "Edits") rfl)), (He.noat_ok (K := K) (c.fact 68 (f := .noat "Edits" "pieces") rfl)), (He.noat_ok (K := K) (c.fact 69 (f := .noat "Edits" "length") rfl))⟩
  have TF : ClF K (He.ga K "Film") := ⟨(He.cls_ok (K := K) (c.fact 67 (f := .cls "Film") rfl)), (He.noat_ok (K := K) (c.fact 70 (f := .noat "Film" "names") rfl)), (He.noat_ok (K := K) (c.fact 71 (f := .noat "Film" "kept_samples") rfl)), (He.noat_ok (K := K) (c.fact 72 (f := .noat "Film" "kept_edits") rfl)), (He.noat_ok (K := K) (c.fact 73 (f := .noat "Film" "length") rfl))⟩
  have gE := (He.glo_ok X G (c.fact 59 (f := .glo "Edits") rfl))
  have gF := (He.glo_ok X G (c.fact 60 (f := .glo "Film") rfl))
  have XT := extB_ok e1 (He.glo_ok X G (c.fact 61 (f := .glo "TooManyPieces") rfl))
  have XL := extB_ok e2 (He.glo_ok X G (c.fact 62 (f := .glo "TooLong") rfl))
  have XS := extB_ok e3 (He.glo_ok X G (c.fact 63 (f := .glo "BadStretch") rfl))
  have XM := extB_ok e4 (He.glo_ok X G (c.fact 64 (f := .glo "BadMoment") rfl))
  have Ne := neB_ok e5
  have IE := insB_ok e6
  have IF := insB_ok e7
  have TO : OlT K mg (He.ga K "OtherLanes") := by
    obtain ⟨q1, q2, q3, q4⟩ := He.exc_ok (K := K) (c.fact 94 (f := .exc "OtherLanes") rfl)
    exact ⟨q1, (He.glo_ok X G (c.fact 65 (f := .glo "OtherLanes") rfl)), q2, q3, q4⟩
  have EX : ExmT K (He.ga K "BadStretch") (He.ga K "BadMoment") (He.ga K "OtherLanes") (He.ga K "TooLong") (He.ga K "TooManyPieces") := ⟨He.exm_ok (c.fact 95 (f := .exm "BadStretch" "BadStretch" true) rfl), He.exm_ok (c.fact 96 (f := .exm "BadMoment" "BadStretch" false) rfl), He.exm_ok (c.fact 97 (f := .exm "BadMoment" "BadMoment" true) rfl), He.exm_ok (c.fact 98 (f := .exm "OtherLanes" "BadStretch" false) rfl), He.exm_ok (c.fact 99 (f := .exm "OtherLanes" "BadMoment" false) rfl), He.exm_ok (c.fact 100 (f := .exm "OtherLanes" "OtherLanes" true) rfl), He.exm_ok (c.fact 101 (f := .exm "TooLong" "BadStretch" false) rfl), He.exm_ok (c.fact 102 (f := .exm "TooLong" "BadMoment" false) rfl), He.exm_ok (c.fact 103 (f := .exm "TooLong" "OtherLanes" false) rfl), He.exm_ok (c.fact 104 (f := .exm "TooLong" "TooLong" true) rfl), He.exm_ok (c.fact 105 (f := .exm "TooManyPieces" "TooLong" false) rfl), He.exm_ok (c.fact 106 (f := .exm "TooManyPieces" "TooManyPieces" true) rfl)⟩
  have nf : NfT K (He.ga K "BadStretch") (He.ga K "BadMoment") (He.ga K "TooLong") (He.ga K "TooManyPieces") := ⟨(He.noat_ok (K := K) (c.fact 74 (f := .noat "BadStretch" "first") rfl)), (He.noat_ok (K := K) (c.fact 75 (f := .noat "BadStretch" "last") rfl)), (He.noat_ok (K := K) (c.fact 76 (f := .noat "BadMoment" "moment") rfl)), (He.noat_ok (K := K) (c.fact 77 (f := .noat "TooLong" "found") rfl)), (He.noat_ok (K := K) (c.fact 78 (f := .noat "TooManyPieces" "found") rfl))⟩
  have G1 := ok_is_integer (P := P) (w := w) (base := base) T (c.def_ 0 (d := dN "is_integer" 12) rfl) (He.glo_ok X G (c.fact 26 (f := .glo "is_integer") rfl))
  have G2 := ok_is_piece (P := P) (w := w) (base := base) T (c.def_ 1 (d := dN "is_piece" 15) rfl) (He.glo_ok X G (c.fact 27 (f := .glo "is_piece") rfl)) G1
  have G3 := ok_length_of (P := P) (w := w) (base := base) (c.def_ 2 (d := dN "length_of" 16) rfl) (He.glo_ok X G (c.fact 28 (f := .glo "length_of") rfl))
  have G4 := ok_play (P := P) (w := w) (base := base) (c.def_ 3 (d := dN "play" 17) rfl) (He.glo_ok X G (c.fact 29 (f := .glo "play") rfl))
  have G5 := ok_taken_by (P := P) (w := w) (base := base) (c.def_ 5 (d := dN "taken_by" 19) rfl) (He.glo_ok X G (c.fact 31 (f := .glo "taken_by") rfl))
  have G6 := ok_with_piece (P := P) (w := w) (base := base) (c.def_ 4 (d := dN "with_piece" 18) rfl) (He.glo_ok X G (c.fact 30 (f := .glo "with_piece") rfl)) G5 G4
  have G7 := ok_far (P := P) (w := w) (base := base) (c.def_ 6 (d := dN "as_far_as_they_can" 20) rfl) (He.glo_ok X G (c.fact 32 (f := .glo "as_far_as_they_can") rfl)) G6
  have G8 := ok_sampled (P := P) (w := w) (base := base) T (c.def_ 7 (d := dN "sampled" 21) rfl) (He.glo_ok X G (c.fact 33 (f := .glo "sampled") rfl)) G3 G4
  have E0 := ok_Edits_init (P := P) (w := w) (base := base) T TE (c.def_ 33 (d := dM "Edits" "__init__" "Edits.__init__" 22 0) rfl) (He.mkr_ok (K := K) (c.fact 84 (f := .mkr "Edits") rfl)) gE G2 G3 G7
  have E1 := ok_Edits_eq (P := P) (w := w) (base := base) T TE IE (c.def_ 34 (d := dM "Edits" "__eq__" "Edits.__eq__" 22 1) rfl) (He.meth_ok (K := K) (c.fact 79 (f := .meth "Edits" "__eq__") rfl)) gE
  have E2 := ok_Edits_check (P := P) (w := w) (base := base) T TE (c.def_ 35 (d := dM "Edits" "check_stretch" "Edits.check_stretch" 22 4) rfl) (He.meth_ok (K := K) (c.fact 80 (f := .meth "Edits" "check_stretch") rfl)) G1
  have E3 := ok_Edits_stretch (P := P) (w := w) (base := base) T TE (c.def_ 36 (d := dM "Edits" "stretch" "Edits.stretch" 22 5) rfl) (He.meth_ok (K := K) (c.fact 81 (f := .meth "Edits" "stretch") rfl)) E2 G8 E0
  have E4 := ok_Edits_cut (P := P) (w := w) (base := base) T TE (c.def_ 37 (d := dM "Edits" "cut" "Edits.cut" 22 6) rfl) (He.meth_ok (K := K) (c.fact 82 (f := .meth "Edits" "cut") rfl)) E2 G8 E0
  have E5 := ok_Edits_faster (P := P) (w := w) (base := base) T TE (c.def_ 38 (d := dM "Edits" "faster" "Edits.faster" 22 7) rfl) (He.meth_ok (K := K) (c.fact 83 (f := .meth "Edits" "faster") rfl)) E2 G8 E0
  have R1 := ok_is_name (P := P) (w := w) (base := base) T (c.def_ 8 (d := dN "is_name" 31) rfl) (He.glo_ok X G (c.fact 34 (f := .glo "is_name") rfl))
  have R2 := ok_is_sample (P := P) (w := w) (base := base) T (c.def_ 9 (d := dN "is_sample" 32) rfl) (He.glo_ok X G (c.fact 35 (f := .glo "is_sample") rfl)) G1
  have R3 := ok_are_samples (P := P) (w := w) (base := base) T (c.def_ 10 (d := dN "are_samples" 33) rfl) (He.glo_ok X G (c.fact 36 (f := .glo "are_samples") rfl)) R2
  have R4 := ok_edits_of (P := P) (w := w) (base := base) (c.def_ 11 (d := dN "edits_of" 34) rfl) (He.glo_ok X G (c.fact 37 (f := .glo "edits_of") rfl)) E0
  have R5 := ok_stays_in (P := P) (w := w) (base := base) T TE (c.def_ 12 (d := dN "stays_in" 35) rfl) (He.glo_ok X G (c.fact 38 (f := .glo "stays_in") rfl))
  have R6 := ok_read_lane (P := P) (w := w) (base := base) T (c.def_ 13 (d := dN "read_lane" 36) rfl) (He.glo_ok X G (c.fact 39 (f := .glo "read_lane") rfl)) R1 R3 R4 R5
  have R7 := ok_read_lanes (P := P) (w := w) (base := base) T TE (c.def_ 14 (d := dN "read_lanes" 37) rfl) (He.glo_ok X G (c.fact 40 (f := .glo "read_lanes") rfl)) R6
  have XT1 := ok_TooManyPieces (P := P) (w := w) (base := base) (c.def_ 48 (d := dM "TooManyPieces" "__init__" "TooManyPieces.__init__" 4 0) rfl) XT nf.t
  have XL1 := ok_TooLong (P := P) (w := w) (base := base) (c.def_ 49 (d := dM "TooLong" "__init__" "TooLong.__init__" 5 0) rfl) XL nf.l
  have XM1 := ok_BadMoment (P := P) (w := w) (base := base) (c.def_ 51 (d := dM "BadMoment" "__init__" "BadMoment.__init__" 7 0) rfl) XM nf.m
  have XS1 := ok_BadStretch (P := P) (w := w) (base := base) (c.def_ 50 (d := dM "BadStretch" "__init__" "BadStretch.__init__" 6 0) rfl) XS nf.s1 nf.s2
  have F0 := ok_Film_init (P := P) (w := w) (base := base) T TE TF (c.def_ 39 (d := dM "Film" "__init__" "Film.__init__" 38 0) rfl) (He.mkr_ok (K := K) (c.fact 93 (f := .mkr "Film") rfl)) gF R7 XT1
  have F1 := ok_Film_check_length (P := P) (w := w) (base := base) TF (c.def_ 42 (d := dM "Film" "check_length" "Film.check_length" 38 8) rfl) (He.meth_ok (K := K) (c.fact 87 (f := .meth "Film" "check_length") rfl)) XL1
  have F2 := ok_Film_check_stretch (CE := He.ga K "Edits") (P := P) (w := w) (base := base) TF (c.def_ 43 (d := dM "Film" "check_stretch" "Film.check_stretch" 38 9) rfl) (He.meth_ok (K := K) (c.fact 88 (f := .meth "Film" "check_stretch") rfl)) G1 XS1
  have F3 := ok_Film_with_edits (P := P) (w := w) (base := base) T TE TF (c.def_ 41 (d := dM "Film" "with_edits" "Film.with_edits" 38 7) rfl) (He.meth_ok (K := K) (c.fact 86 (f := .meth "Film" "with_edits") rfl)) F0
  have F4 := ok_Film_eq (P := P) (w := w) (base := base) T TF IF (c.def_ 40 (d := dM "Film" "__eq__" "Film.__eq__" 38 1) rfl) (He.meth_ok (K := K) (c.fact 85 (f := .meth "Film" "__eq__") rfl)) gF E1
  have F5 := ok_Film_cut (P := P) (w := w) (base := base) T TF (c.def_ 44 (d := dM "Film" "cut" "Film.cut" 38 10) rfl) (He.meth_ok (K := K) (c.fact 89 (f := .meth "Film" "cut") rfl)) F2 F3 E4
  have F6 := ok_Film_faster (P := P) (w := w) (base := base) T TF (c.def_ 45 (d := dM "Film" "faster" "Film.faster" 38 11) rfl) (He.meth_ok (K := K) (c.fact 90 (f := .meth "Film" "faster") rfl)) F2 F3 E5
  have F7 := ok_Film_repeat (P := P) (w := w) (base := base) T TE TF (c.def_ 46 (d := dM "Film" "repeat" "Film.repeat" 38 12) rfl) (He.meth_ok (K := K) (c.fact 91 (f := .meth "Film" "repeat") rfl)) F2 F1 F3 E3 E0
  have F8 := ok_Film_put_in (P := P) (w := w) (base := base) T TE TF TO (c.def_ 47 (d := dM "Film" "put_in" "Film.put_in" 38 13) rfl) (He.meth_ok (K := K) (c.fact 92 (f := .meth "Film" "put_in") rfl)) G1 XM1 F1 F3 E3 E0
  have L1 := ok_law_take (P := P) (w := w) (base := base) T (c.def_ 16 (d := dN "_law_take" 41) rfl) (He.glo_ok X G (c.fact 42 (f := .glo "_law_take") rfl))
  have L2 := ok_law_pick (P := P) (w := w) (base := base) T (c.def_ 17 (d := dN "_law_pick" 42) rfl) (He.glo_ok X G (c.fact 43 (f := .glo "_law_pick") rfl)) L1
  have L3 := ok_law_big (P := P) (w := w) (base := base) T (c.def_ 18 (d := dN "_law_big" 43) rfl) (He.glo_ok X G (c.fact 44 (f := .glo "_law_big") rfl)) L1
  have L4 := ok_law_feed (P := P) (w := w) (base := base) T (c.def_ 15 (d := dN "_law_feed" 40) rfl) (He.glo_ok X G (c.fact 41 (f := .glo "_law_feed") rfl))
  have L5 := ok_law_samples (P := P) (w := w) (base := base) T (c.def_ 19 (d := dN "_law_samples" 44) rfl) (He.glo_ok X G (c.fact 45 (f := .glo "_law_samples") rfl)) L1 L2 L3
  have L6 := ok_law_pieces (P := P) (w := w) (base := base) T (c.def_ 20 (d := dN "_law_pieces" 45) rfl) (He.glo_ok X G (c.fact 46 (f := .glo "_law_pieces") rfl)) L1 L2
  have L7 := ok_law_lanes (P := P) (w := w) (base := base) T (c.def_ 21 (d := dN "_law_lanes" 46) rfl) (He.glo_ok X G (c.fact 47 (f := .glo "_law_lanes") rfl)) L1 L2 L5 L6
  have L8 := ok_law_moments (P := P) (w := w) (base := base) T (c.def_ 22 (d := dN "_law_moments" 47) rfl) (He.glo_ok X G (c.fact 48 (f := .glo "_law_moments") rfl))
  have L9 := ok_law_told (P := P) (w := w) (base := base) T (c.def_ 23 (d := dN "_law_told" 49) rfl) (He.glo_ok X G (c.fact 49 (f := .glo "_law_told") rfl))
  have L10 := ok_law_great (P := P) (w := w) (base := base) T (c.def_ 24 (d := dN "_law_great" 50) rfl) (He.glo_ok X G (c.fact 50 (f := .glo "_law_great") rfl)) L1 L2 L8 L9
  have L11 := ok_law_stretch (P := P) (w := w) (base := base) TF (c.def_ 26 (d := dN "_law_stretch" 52) rfl) (He.glo_ok X G (c.fact 52 (f := .glo "_law_stretch") rfl)) F5
  have L12 := ok_law_spots (P := P) (w := w) (base := base) T (c.def_ 25 (d := dN "_law_spots" 51) rfl) (He.glo_ok X G (c.fact 51 (f := .glo "_law_spots") rfl)) L1 L2 L3
  have L13 := ok_law_is_right (P := P) (w := w) (base := base) T TF Ne (c.def_ 27 (d := dN "_law_is_right" 53) rfl) (He.glo_ok X G (c.fact 53 (f := .glo "_law_is_right") rfl)) L1 L12 L11 F5 F6 F7 F8 F4
  have L14 := ok_law_is_too_long (P := P) (w := w) (base := base) T TF EX XL XT nf.l (c.def_ 29 (d := dN "_law_is_too_long" 55) rfl) (He.glo_ok X G (c.fact 55 (f := .glo "_law_is_too_long") rfl)) F7
  have L15 := ok_law_is_put_in (P := P) (w := w) (base := base) T TF EX XL nf.l (c.def_ 28 (d := dN "_law_is_put_in" 54) rfl) (He.glo_ok X G (c.fact 54 (f := .glo "_law_is_put_in") rfl)) F0 F8
  have L16 := ok_law_error (P := P) (w := w) (base := base) T TF EX XS XM TO XL XT nf (c.def_ 30 (d := dN "_law_error" 56) rfl) (He.glo_ok X G (c.fact 56 (f := .glo "_law_error") rfl)) F7 F8
  have L17 := ok_law_first_error_right (P := P) (w := w) (base := base) T TF (c.def_ 31 (d := dN "_law_first_error_right" 57) rfl) (He.glo_ok X G (c.fact 57 (f := .glo "_law_first_error_right") rfl)) L1 F0 L16
  exact ok_law (P := P) (w := w) (base := base) T TF Ne (c.def_ 32 (d := dN "law" 58) rfl) (He.glo_ok X G (c.fact 58 (f := .glo "law") rfl)) L4 L1 L2 L3 L7 L10 F0 F4 F7 L13 L14 L17 L15
end K24

/-! part HZ -/
set_option Elab.async false
set_option linter.all false
set_option maxRecDepth 100000
set_option maxHeartbeats 0
namespace K24
open PySem PySem.Spec PyProof.Rows L2
abbrev R : PySem.W.OpenRow := PySem.W.OpenLaw.row PySem.Challenge.rw_everyseek_k24_whole_algebra_of_edits
abbrev hk : PySem.W.Hook := He.hookX 5 fa fn [] [] more
def ob (s : PySem.W.SharedT) : He.AlX := He.obsX 5 fa fn [] [] more (HandSHeadRun.getT s)
theorem ob_eq (s : PySem.W.SharedT) : ob s = hk.obs s.abs := He.obsX_eq (HandSHeadRun.getT_eq s)
def lo1 : List Str := ["_wall", "FilmError", "BadPieces", "TooManyPieces", "TooLong", "BadStretch", "BadMoment", "BadLanes", "UnknownLane", "OtherLanes", "is_integer", "MAX_LENGTH", "is_piece", "length_of", "play", "with_piece", "taken_by", "as_far_as_they_can", "sampled", "Edits", "LETTERS", "MAX_LANES", "MAX_NAME", "MAX_SAMPLES", "MAX_PIECES", "MAX_SIZE"]
def lo2 : List Str := ["MAX_TICKS", "is_name", "is_sample", "are_samples", "edits_of", "stays_in", "read_lane", "read_lanes", "Film", "_law_feed", "_law_take", "_law_pick", "_law_big", "_law_samples", "_law_pieces", "_law_lanes", "_law_moments", "_law_shown", "_law_told", "_law_great", "_law_spots", "_law_stretch", "_law_is_right", "_law_is_put_in", "_law_is_too_long", "_law_error", "_law_first_error_right"]
def lo : List Str := lo1 ++ lo2
theorem run (w : World) : HandSHeadRun.RunEq R (PySem.W.view R.prog [58]) hk ob 9000 lo w := by
  intro os
  kernel_rfl
end K24

/-! part HW -/
set_option Elab.async false
set_option linter.all false
set_option maxRecDepth 100000
set_option maxHeartbeats 0
open PySem PySem.W PySem.Calls PyProof.Rows
theorem PySem.Challenge.cw_everyseek_k24_whole_algebra_of_edits_holds : PySem.Challenge.rw_everyseek_k24_whole_algebra_of_edits.Holds := by
  w_on; o_law
  refine HandSHeadRun.head_any (r := K24.R) (q := view K24.R.prog [58]) (H := K24.hk) (ob := K24.ob) (M := 9000) (loose := K24.lo) (d := HandSHeadRun.topDef K24.R.prog 58) (kwd := []) K24.ob_eq
    (by kernel_rfl) (fun s => by kernel_rfl) K24.run (by kernel_rfl) (by kernel_rfl) (by kernel_rfl) (by rfl) (by first | assumption | decide +kernel) (by decide +kernel) ⟨rfl, rfl, rfl, rfl, rfl, by decide +kernel⟩ ?hw ?hc
  case hw => w_witness2
  case hc =>
    refine K24.walk_ofQ (l := PySem.Challenge.rw_everyseek_k24_whole_algebra_of_edits) (n := 63) (k := 15) (x := "_law_script") rfl (by decide) (by kernel_rfl) ⟨rfl, by decide, by decide⟩ ?F (fun _ _ _ _ _ z => ?X)
    case X =>
      obtain ⟨_, _, _, _, _, _, _, _, _, _, _, _, no⟩ := z
      exact no.elim
    case F =>
      intro w mg fa h Y G hmg0
      obtain ⟨K, KX, c⟩ := Y
      have hmg : mg ("law" : PySem.Str) = some (.ref fa) := by
        have e : (HandSHeadRun.topDef K24.R.prog 58).name = ("law" : PySem.Str) := by kernel_rfl
        rw [← e]
        exact hmg0
      have all := K24.facts (P := (PySem.Challenge.rw_everyseek_k24_whole_algebra_of_edits).prog) (w := w) KX G c.t.d c.more
      obtain ⟨f0, fd, _, b0, _, g0, oc, od, osl, lk⟩ := (all h).ex
      obtain rfl : f0 = fa := by
        rw [hmg] at g0
        cases g0
        rfl
      refine ⟨K, fd, K24.spLaw K, KX, fun s u hs => b0 s [u] hs rfl, fun H a ns hl _ hS => ⟨a, ns, rfl, hS, hl, fun _ => rfl⟩, fun base _ _ => ?_⟩
      obtain ⟨f1, fd1, F1, _, _, g1, oc1, od1, osl1, lk1⟩ := (all base).ex
      obtain rfl : f1 = f0 := by
        rw [hmg] at g1
        cases g1
        rfl
      rw [lk] at lk1
      cases lk1
      exact F1
