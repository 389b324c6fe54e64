import PyProof.Rows.All
import Wide.All
import OpenK.AllK
import Wide.FinOn
import KE.KStateDown
import KE.KUnpackStar
import KE.SortData
import KE.LtData
import KE.DataMinMax
import KE.DatumIndex
import KE.GoesMore
import KE.GoesEnum
import KE.GoesEnumKw
import KE.KDictKeyed
import KE.KDictLaw
import KE.KDictDisplayH
import HandS.ForMost
import HandS.Exc
import HandS.TryOnly
import HandS.ExcInit
import HandS.ExcOwn
import HandS.Flow
import HandS.Style
import HandS.IsInst
import HandS.Walk
import HandS.Zip
import HandS.SortKw
import HandS.Defaults
import HandS.MakeKw
import HandS.MakeKwOnly
import HandS.CallLocal
import HandS.Nested
import HandS.OwnEq
import HandS.Wide
import HandS.WideMore
import HandS.TupLe
import HandS.TupAny
import HandS.TupMul
import HandS.Conv
import HandS.HeadHook4
import HandS.EndTab
import HandS.HeadWalk
import HandS.Small
import HandS.DictComp
import HandS.Head0
import HandS.Head1
import HandS.Head2
import HandS.HeadEnd
import HandS.HeadHook1
import HandS.HeadHook2
import HandS.HeadHook3
import PySem.Challenge.RW_rateplan_k95_whole_rules_that_tell_plans
set_option Elab.async false
set_option linter.all false
set_option autoImplicit false
set_option maxRecDepth 100000
set_option maxHeartbeats 200000
/-! The plain laws: talks, stands, walks, runs, tapes. No program in sight. -/
namespace RP

structure Tk where
  len : List Int
  siz : List (List Int)
structure Op where
  beg : Int
  aga : Int
  mst : Int
  wai : Int
structure Sd where
  n : Nat
  c : Int
  g : Int
  k : Int
  p : Int
  w : Int
deriving DecidableEq

def Tk.N (T : Tk) : Nat := T.len.length
def Tk.L (T : Tk) (i : Nat) : Int := T.len.getD i 0
def Tk.S (T : Tk) (i : Nat) (r : Int) : Int := (T.siz.getD i []).getD r.toNat 0
def Tk.tot (T : Tk) : Int := T.len.sum
def Tk.W (T : Tk) : Nat := (T.siz.headD []).length

structure TOk (T : Tk) : Prop where
  pos : 0 < T.N
  le : T.N ≤ 6
  same : T.siz.length = T.N
  l1 : ∀ l ∈ T.len, 1 ≤ l ∧ l ≤ 5
  wid : ∀ r ∈ T.siz, r.length = T.W
  w1 : 1 ≤ T.W ∧ T.W ≤ 4
  s1 : ∀ r ∈ T.siz, ∀ z ∈ r, 1 ≤ z ∧ z ≤ 16
structure OOk (T : Tk) (o : Op) : Prop where
  b : 1 ≤ o.beg ∧ o.beg ≤ 100
  a : 1 ≤ o.aga ∧ o.aga ≤ 100
  m : ∀ l ∈ T.len, l ≤ o.mst
  mle : o.mst ≤ 100
  w : 0 ≤ o.wai ∧ o.wai ≤ 10

def room (T : Tk) (o : Op) (s : Sd) : Bool := decide (s.n < T.N) && decide (s.k + T.L s.n ≤ o.mst)
def begs (T : Tk) (o : Op) (s : Sd) : Bool := (decide ((if s.w = 0 then o.beg else o.aga) ≤ s.k) || decide (s.n = T.N)) || (decide (s.c = -1) && !room T o s)
def pld (T : Tk) (o : Op) (s : Sd) : Int × Int × Int :=
  if (decide (s.w ≠ 1) && !begs T o s) = true then (s.k, s.p, s.w) else if s.k = 0 then (s.k, s.p, 2) else (s.k - 1, s.p + 1, 1)
def bg (s : Sd) (v : Int) : Int := s.g + (if s.g < 0 then 1 else v)
def beat (T : Tk) (o : Op) (s : Sd) (v : Int) : Sd :=
  if s.c = -1 then ⟨s.n, s.c, s.g, (pld T o s).1, (pld T o s).2.1, (pld T o s).2.2⟩
  else if bg s v < T.S s.n s.c then ⟨s.n, s.c, bg s v, (pld T o s).1, (pld T o s).2.1, (pld T o s).2.2⟩
  else ⟨s.n + 1, -1, 0, (pld T o s).1 + T.L s.n, (pld T o s).2.1, (pld T o s).2.2⟩
def chos (o : Op) (s : Sd) (r : Int) : Sd := ⟨s.n, r, 0 - o.wai, s.k, s.p, s.w⟩
def over (T : Tk) (s : Sd) : Prop := s.p = T.tot
instance (T : Tk) (s : Sd) : Decidable (over T s) := inferInstanceAs (Decidable (s.p = T.tot))
def asks (T : Tk) (o : Op) (s : Sd) : Bool := decide (s.c = -1) && room T o s
def sd0 : Sd := ⟨0, -1, 0, 0, 0, 0⟩

structure SOk (T : Tk) (o : Op) (s : Sd) : Prop where
  n : s.n ≤ T.N
  k0 : 0 ≤ s.k
  km : s.k ≤ o.mst
  p0 : 0 ≤ s.p
  sum : s.k + s.p = (T.len.take s.n).sum
  com : (s.c = -1 ∧ s.g = 0) ∨ (0 ≤ s.c ∧ s.c < T.W ∧ s.n < T.N ∧ -o.wai ≤ s.g ∧ s.g < T.S s.n s.c ∧ s.k + T.L s.n ≤ o.mst)
  go : (s.p = 0 ∧ s.w = 0) ∨ (1 ≤ s.p ∧ (s.w = 1 ∨ s.w = 2))

section
variable {T : Tk} {o : Op}
theorem getD_mem {α : Type} {l : List α} {i : Nat} {d : α} (h : i < l.length) : l.getD i d ∈ l := by
  rw [List.getD_eq_getElem?_getD, List.getElem?_eq_getElem h]
  exact List.getElem_mem h
theorem TOk.L1 (t : TOk T) {i : Nat} (h : i < T.N) : 1 ≤ T.L i ∧ T.L i ≤ 5 := t.l1 _ (getD_mem h)
theorem TOk.row (t : TOk T) {i : Nat} (h : i < T.N) : (T.siz.getD i []) ∈ T.siz := getD_mem (by rw [t.same]; exact h)
theorem TOk.S1 (t : TOk T) {i : Nat} {r : Int} (h : i < T.N) (h0 : 0 ≤ r) (h1 : r < T.W) : 1 ≤ T.S i r ∧ T.S i r ≤ 16 := by
  have hr := t.row h
  refine t.s1 _ hr _ (getD_mem ?_)
  rw [t.wid _ hr]
  omega
theorem take_le {l : List Int} (h : ∀ x ∈ l, 1 ≤ x) : ∀ n, 0 ≤ (l.take n).sum ∧ (l.take n).sum ≤ l.sum := by
  induction l with
  | nil => intro n; simp
  | cons a l ih =>
    intro n
    have ha := h a (List.mem_cons_self ..)
    have ihl := ih (fun x hx => h x (List.mem_cons_of_mem _ hx))
    cases n with
    | zero =>
      have := ihl l.length
      rw [List.take_length] at this
      simp only [List.take_zero, List.sum_nil, List.sum_cons]
      omega
    | succ n =>
      have := ihl n
      simp only [List.take_succ_cons, List.sum_cons]
      omega
theorem take_lt {l : List Int} (h : ∀ x ∈ l, 1 ≤ x) : ∀ n, n < l.length → (l.take n).sum < l.sum := by
  induction l with
  | nil => intro n hn; simp at hn
  | cons a l ih =>
    intro n hn
    have ha := h a (List.mem_cons_self ..)
    have hl := fun x hx => h x (List.mem_cons_of_mem _ hx)
    cases n with
    | zero =>
      have := take_le hl l.length
      rw [List.take_length] at this
      simp only [List.take_zero, List.sum_nil, List.sum_cons]
      omega
    | succ n =>
      have := ih hl n (by simpa using hn)
      simp only [List.take_succ_cons, List.sum_cons]
      omega
theorem take_step : ∀ {l : List Int} {n : Nat}, n < l.length → (l.take (n + 1)).sum = (l.take n).sum + l.getD n 0
  | [], _, h => by simp at h
  | a :: l, 0, _ => by simp
  | a :: l, n + 1, h => by
    have := take_step (l := l) (n := n) (by simpa using h)
    simp only [List.take_succ_cons, List.sum_cons, List.getD_cons_succ] at this ⊢
    omega
theorem TOk.one (t : TOk T) : ∀ x ∈ T.len, 1 ≤ x := fun x hx => (t.l1 x hx).1
theorem TOk.tot1 (t : TOk T) : 1 ≤ T.tot := by
  have h := take_lt t.one 0 t.pos
  have h2 : T.tot = T.len.sum := rfl
  simp only [List.take_zero, List.sum_nil] at h
  omega
theorem sum_le5 : ∀ {l : List Int}, (∀ x ∈ l, x ≤ 5) → l.sum ≤ 5 * (l.length : Int)
  | [], _ => by simp
  | a :: l, h => by
    have := sum_le5 (l := l) fun x hx => h x (List.mem_cons_of_mem _ hx)
    have ha := h a (List.mem_cons_self ..)
    simp only [List.sum_cons, List.length_cons]
    omega
theorem TOk.tot30 (t : TOk T) : T.tot ≤ 30 := by
  have h := sum_le5 (l := T.len) fun x hx => (t.l1 x hx).2
  have h2 := t.le
  have h3 : T.tot = T.len.sum := rfl
  have h4 : T.N = T.len.length := rfl
  omega
theorem OOk.L (v : OOk T o) {i : Nat} (h : i < T.N) : T.L i ≤ o.mst := v.m _ (getD_mem h)

theorem sd0_ok (t : TOk T) (v : OOk T o) : SOk T o sd0 := by
  have h1 := t.pos
  have h2 := v.L h1
  have h3 := t.L1 h1
  exact ⟨Nat.zero_le _, by decide, by show (0 : Int) ≤ _; omega, by decide, rfl, .inl ⟨rfl, rfl⟩, .inl ⟨rfl, rfl⟩⟩
theorem asks_iff {s : Sd} : asks T o s = true ↔ s.c = -1 ∧ s.n < T.N ∧ s.k + T.L s.n ≤ o.mst := by
  unfold asks room
  simp only [Bool.and_eq_true, decide_eq_true_eq]
theorem chos_ok (t : TOk T) (v : OOk T o) {s : Sd} {r : Int} (h : SOk T o s) (a : asks T o s = true) (r0 : 0 ≤ r) (r1 : r < T.W) : SOk T o (chos o s r) := by
  obtain ⟨a1, a2, a3⟩ := asks_iff.mp a
  have hS := t.S1 a2 r0 r1
  have hw := v.w
  refine ⟨h.n, h.k0, h.km, h.p0, h.sum, .inr ⟨r0, r1, a2, ?_, ?_, a3⟩, h.go⟩
  · show -o.wai ≤ 0 - o.wai; omega
  · show 0 - o.wai < T.S s.n r; omega
/-- what is played keeps to itself -/
structure PldOk (s : Sd) (q : Int × Int × Int) : Prop where
  sum : q.1 + q.2.1 = s.k + s.p
  k0 : 0 ≤ q.1
  kle : q.1 ≤ s.k
  ple : s.p ≤ q.2.1
  go : (q.2.1 = 0 ∧ q.2.2 = 0) ∨ (1 ≤ q.2.1 ∧ (q.2.2 = 1 ∨ q.2.2 = 2))
  st : q.2.2 = 2 → q.2.1 = s.p ∧ s.p ≠ 0
theorem notover_n {s : Sd} (h : SOk T o s) (hp : ¬ over T s) : s.k = 0 → s.n ≠ T.N := fun hk hn => hp (by
  have h1 := h.sum
  rw [hn, show T.N = T.len.length from rfl, List.take_length] at h1
  show s.p = T.len.sum
  omega)
theorem pld_ok (t : TOk T) (v : OOk T o) {s : Sd} (h : SOk T o s) (hp : ¬ over T s) : PldOk s (pld T o s) := by
  have k0 := h.k0
  have p0 := h.p0
  have go := h.go
  have vb := v.b
  have va := v.a
  unfold pld
  split
  · refine ⟨rfl, k0, Int.le_refl _, Int.le_refl _, go, fun e => ⟨rfl, ?_⟩⟩
    have e : s.w = 2 := e
    omega
  · rename_i hb
    split
    · rename_i hk
      -- it begins with nothing kept: only out of play
      have hn := notover_n h hp hk
      have hlt : s.n < T.N := by have := h.n; omega
      have hr : room T o s = true := by
        unfold room
        have := v.L hlt
        simp only [Bool.and_eq_true, decide_eq_true_eq]
        omega
      have hw : s.w = 1 := by
        by_cases e : s.w = 1
        · exact e
        · exfalso
          apply hb
          have e2 : begs T o s = false := by
            unfold begs
            rw [hr]
            simp only [Bool.or_eq_false_iff, decide_eq_false_iff_not, Bool.not_true, Bool.and_false, and_true]
            refine ⟨?_, hn⟩
            split <;> omega
          rw [e2]
          simp [e]
      refine ⟨rfl, k0, Int.le_refl _, Int.le_refl _, .inr ⟨?_, .inr rfl⟩, fun _ => ⟨rfl, ?_⟩⟩
      · show 1 ≤ s.p; omega
      · omega
    · rename_i hk
      refine ⟨?_, ?_, ?_, ?_, .inr ⟨?_, .inl rfl⟩, fun e => ?_⟩
      · show s.k - 1 + (s.p + 1) = s.k + s.p; omega
      · show 0 ≤ s.k - 1; omega
      · show s.k - 1 ≤ s.k; omega
      · show s.p ≤ s.p + 1; omega
      · show 1 ≤ s.p + 1; omega
      · have e : (1 : Int) = 2 := e
        omega
theorem beat_ok (t : TOk T) (v : OOk T o) {s : Sd} {x : Int} (h : SOk T o s) (hp : ¬ over T s) (hx : 0 ≤ x) : SOk T o (beat T o s x) := by
  have q := pld_ok t v h hp
  generalize hQ : pld T o s = Q at q
  have km := h.km
  have q1 := q.sum
  have q2 := q.kle
  have q3 := q.k0
  have q4 := q.ple
  have p0 := h.p0
  have sm := h.sum
  unfold beat
  rw [hQ]
  rcases h.com with ⟨c1, c2⟩ | ⟨c1, c2, c3, c4, c5, c6⟩
  · rw [if_pos c1]
    exact ⟨h.n, q3, by show Q.1 ≤ _; omega, by show 0 ≤ Q.2.1; omega, by show Q.1 + Q.2.1 = (T.len.take s.n).sum; omega, .inl ⟨c1, c2⟩, q.go⟩
  · rw [if_neg (by omega)]
    have hG : -o.wai ≤ bg s x := by unfold bg; split <;> omega
    generalize bg s x = G at hG ⊢
    split
    · rename_i hg
      refine ⟨h.n, q3, by show Q.1 ≤ _; omega, by show 0 ≤ Q.2.1; omega, by show Q.1 + Q.2.1 = (T.len.take s.n).sum; omega, .inr ⟨c1, c2, c3, hG, hg, ?_⟩, q.go⟩
      · show Q.1 + T.L s.n ≤ o.mst; omega
    · have hL := t.L1 c3
      have e := take_step (l := T.len) (n := s.n) c3
      have e2 : T.len.getD s.n 0 = T.L s.n := rfl
      refine ⟨?_, ?_, ?_, ?_, ?_, .inl ⟨rfl, rfl⟩, q.go⟩
      · show s.n + 1 ≤ T.N; omega
      · show 0 ≤ Q.1 + T.L s.n; omega
      · show Q.1 + T.L s.n ≤ o.mst; omega
      · show 0 ≤ Q.2.1; omega
      · show Q.1 + T.L s.n + Q.2.1 = (T.len.take (s.n + 1)).sum
        omega
end
end RP
set_option maxHeartbeats 200000
namespace RP
structure Wk where
  s : Sd
  b : Nat
  rl : Option Int
  sl : Option (Int × Int)
  rates : List Int
  begun : List Int
  whole : List Int
  plays : List Int
  stalls : List (Int × Int)
  kept : List Int
abbrev Ch := Nat → Int → Option Int → Option (Int × Int) → Int
def wk0 : Wk := ⟨sd0, 0, none, none, [], [], [], [], [], []⟩
def choose (T : Tk) (o : Op) (ch : Ch) (W : Wk) : Wk :=
  if asks T o W.s = true then { W with s := chos o W.s (ch W.s.n W.s.k W.rl W.sl), rl := some (ch W.s.n W.s.k W.rl W.sl), rates := W.rates ++ [ch W.s.n W.s.k W.rl W.sl], begun := W.begun ++ [(W.b : Int)] } else W
def bump (l : List (Int × Int)) : List (Int × Int) := match l.getLast? with
  | some q => l.dropLast ++ [(q.1, q.2 + 1)]
  | none => l
def step (T : Tk) (o : Op) (W : Wk) (v : Int) : Wk :=
  { s := beat T o W.s v
    b := W.b + 1
    rl := W.rl
    sl := if W.s.n < (beat T o W.s v).n then some (T.S W.s.n W.s.c, (W.b : Int) + 1 - W.begun.getLastD 0) else W.sl
    rates := W.rates
    begun := W.begun
    whole := if W.s.n < (beat T o W.s v).n then W.whole ++ [(W.b : Int) + 1] else W.whole
    plays := if W.s.p < (beat T o W.s v).p then W.plays ++ [(W.b : Int)] else W.plays
    stalls := if W.s.p < (beat T o W.s v).p then W.stalls else if (beat T o W.s v).w = 2 then bump (if W.s.w = 1 then W.stalls ++ [((W.b : Int), 0)] else W.stalls) else W.stalls
    kept := W.kept ++ [(beat T o W.s v).k] }
def Bd (B : Int) (l : List Int) : Prop := ∀ x ∈ l, 0 ≤ x ∧ x ≤ B
theorem Bd.mono {B C : Int} {l : List Int} (h : Bd B l) (e : B ≤ C) : Bd C l := fun x hx => ⟨(h x hx).1, Int.le_trans (h x hx).2 e⟩
theorem Bd.snoc {B : Int} {l : List Int} {x : Int} (h : Bd B l) (h0 : 0 ≤ x) (h1 : x ≤ B) : Bd B (l ++ [x]) := fun y hy => by
  rcases List.mem_append.mp hy with hy | hy
  · exact h y hy
  · have e : y = x := by simpa using hy
    rw [e]; exact ⟨h0, h1⟩
def Bd2 (B : Int) (l : List (Int × Int)) : Prop := ∀ q ∈ l, (0 ≤ q.1 ∧ q.1 ≤ B) ∧ 0 ≤ q.2 ∧ q.2 ≤ B
/-- what a walk keeps to -/
structure WOk (T : Tk) (o : Op) (W : Wk) : Prop where
  s : SOk T o W.s
  rl : W.rates.length = W.s.n + (if W.s.c = -1 then 0 else 1)
  bl : W.begun.length = W.s.n + (if W.s.c = -1 then 0 else 1)
  rv : ∀ r ∈ W.rates, 0 ≤ r ∧ r < T.W
  st : W.s.w = 2 → W.stalls ≠ []
  bb : Bd W.b W.begun
  sl : ∀ q, W.sl = some q → (1 ≤ q.1 ∧ q.1 ≤ 16) ∧ 1 ≤ q.2 ∧ q.2 ≤ W.b
  kl : W.kept.length = W.b
  pl : W.plays.length ≤ W.b
  wl : W.whole.length ≤ W.b
  tl : W.stalls.length ≤ W.b
  kb : Bd 100 W.kept
  pb : Bd W.b W.plays
  wb : Bd W.b W.whole
  tb : Bd2 W.b W.stalls
def Vch (T : Tk) (ch : Ch) : Prop := ∀ n k r l, n < T.N → 0 ≤ ch n k r l ∧ ch n k r l < T.W
section
variable {T : Tk} {o : Op} {ch : Ch}
theorem wk0_ok (t : TOk T) (v : OOk T o) : WOk T o wk0 :=
  ⟨sd0_ok t v, rfl, rfl, fun _ h => (nomatch h), fun h => absurd h (by decide), fun _ h => (nomatch h), fun _ h => (nomatch h), rfl, Nat.le_refl _, Nat.le_refl _, Nat.le_refl _, fun _ h => (nomatch h), fun _ h => (nomatch h), fun _ h => (nomatch h), fun _ h => (nomatch h)⟩
theorem choose_p (W : Wk) : (choose T o ch W).s.p = W.s.p := by
  unfold choose
  split <;> rfl
theorem choose_b (W : Wk) : (choose T o ch W).b = W.b := by
  unfold choose
  split <;> rfl
theorem choose_ok (t : TOk T) (v : OOk T o) (vc : Vch T ch) {W : Wk} (h : WOk T o W) : WOk T o (choose T o ch W) := by
  unfold choose
  split
  · rename_i a
    obtain ⟨a1, a2, a3⟩ := asks_iff.mp a
    obtain ⟨r0, r1⟩ := vc W.s.n W.s.k W.rl W.sl a2
    generalize ch W.s.n W.s.k W.rl W.sl = r at r0 r1 ⊢
    have e1 := h.rl
    have e2 := h.bl
    rw [if_pos a1] at e1 e2
    have hc : ¬ (chos o W.s r).c = -1 := by show ¬ r = -1; omega
    refine ⟨chos_ok t v h.s a r0 r1, ?_, ?_, fun x hx => ?_, h.st, h.bb.snoc (by omega) (Int.le_refl _), h.sl, h.kl, h.pl, h.wl, h.tl, h.kb, h.pb, h.wb, h.tb⟩
    · show (W.rates ++ [r]).length = W.s.n + (if (chos o W.s r).c = -1 then 0 else 1)
      rw [if_neg hc, List.length_append, e1]
      rfl
    · show (W.begun ++ [(W.b : Int)]).length = W.s.n + (if (chos o W.s r).c = -1 then 0 else 1)
      rw [if_neg hc, List.length_append, e2]
      rfl
    · rcases List.mem_append.mp hx with hx | hx
      · exact h.rv x hx
      · have e : x = r := by simpa using hx
        rw [e]; exact ⟨r0, r1⟩
  · exact h
/-- behind the choice nothing asks -/
theorem choose_asks (W : Wk) (vc : Vch T ch) : asks T o (choose T o ch W).s = false := by
  unfold choose
  split
  · rename_i a
    obtain ⟨a1, a2, a3⟩ := asks_iff.mp a
    have := vc W.s.n W.s.k W.rl W.sl a2
    cases e : asks T o (chos o W.s (ch W.s.n W.s.k W.rl W.sl)) with
    | false => rfl
    | true =>
      obtain ⟨b1, _, _⟩ := asks_iff.mp e
      have b1 : ch W.s.n W.s.k W.rl W.sl = -1 := b1
      omega
  · rename_i a
    simpa using a
theorem bump_ne {l : List (Int × Int)} (h : l ≠ []) : bump l ≠ [] := by
  unfold bump
  rw [List.getLast?_eq_some_getLast h]
  simp
theorem bump_len (l : List (Int × Int)) : (bump l).length = l.length := by
  unfold bump
  cases e : l.getLast? with
  | none => rfl
  | some q =>
    have hl : l ≠ [] := by intro z; subst z; cases e
    have : 0 < l.length := List.length_pos_iff.mpr hl
    simp only [List.length_append, List.length_dropLast, List.length_cons, List.length_nil]
    omega
theorem bump_bd {B : Int} {l : List (Int × Int)} (h : Bd2 B l) : Bd2 (B + 1) (bump l) := by
  unfold bump
  cases e : l.getLast? with
  | none =>
    intro q hq
    obtain ⟨⟨h1, h2⟩, h3, h4⟩ := h q hq
    refine ⟨⟨h1, ?_⟩, h3, ?_⟩ <;> omega
  | some r =>
    have hr := h r (List.mem_of_getLast? e)
    intro q hq
    rcases List.mem_append.mp hq with hq | hq
    · obtain ⟨⟨h1, h2⟩, h3, h4⟩ := h q (List.dropLast_subset _ hq)
      refine ⟨⟨h1, ?_⟩, h3, ?_⟩ <;> omega
    · have e : q = (r.1, r.2 + 1) := by simpa using hq
      rw [e]
      obtain ⟨⟨h1, h2⟩, h3, h4⟩ := hr
      refine ⟨⟨h1, ?_⟩, ?_, ?_⟩ <;> dsimp only <;> omega
/-- the stretch that is whole -/
theorem beat_n (s : Sd) (x : Int) : (beat T o s x).n = s.n ∨ ((beat T o s x).n = s.n + 1 ∧ s.c ≠ -1 ∧ (beat T o s x).c = -1) := by
  unfold beat
  split
  · exact .inl rfl
  · rename_i hc
    split
    · exact .inl rfl
    · exact .inr ⟨rfl, hc, rfl⟩
theorem beat_c (s : Sd) (x : Int) : (beat T o s x).n = s.n → (beat T o s x).c = s.c := by
  unfold beat
  split
  · exact fun _ => rfl
  · split
    · exact fun _ => rfl
    · intro h
      have h : s.n + 1 = s.n := h
      omega
theorem beat_pw (s : Sd) (x : Int) : (beat T o s x).p = (pld T o s).2.1 ∧ (beat T o s x).w = (pld T o s).2.2 := by
  unfold beat
  split
  · exact ⟨rfl, rfl⟩
  · split <;> exact ⟨rfl, rfl⟩
theorem getLastD_mem {l : List Int} (h : l ≠ []) : l.getLastD 0 ∈ l := by
  rw [List.getLastD_eq_getLast?, List.getLast?_eq_some_getLast h]
  exact List.getLast_mem h
theorem step_ok (t : TOk T) (v : OOk T o) {W : Wk} {x : Int} (h : WOk T o W) (hp : ¬ over T W.s) (hx : 0 ≤ x) : WOk T o (step T o W x) := by
  have hb := beat_ok t v h.s hp hx
  have hn := beat_n (T := T) (o := o) W.s x
  have hcc := beat_c (T := T) (o := o) W.s x
  have hpq := pld_ok t v h.s hp
  have ⟨e1, e2⟩ := beat_pw (T := T) (o := o) W.s x
  have hb1 : ((W.b + 1 : Nat) : Int) = (W.b : Int) + 1 := by omega
  have grow : ∀ {l : List Int}, Bd W.b l → Bd ((W.b + 1 : Nat) : Int) l := fun hl => hl.mono (by omega)
  have lens : ∀ {m : Nat}, m = W.s.n + (if W.s.c = -1 then 0 else 1) → m = (beat T o W.s x).n + (if (beat T o W.s x).c = -1 then 0 else 1) := fun {m} e => by
    rcases hn with z | ⟨z, z2, z3⟩
    · rw [z, hcc z]; exact e
    · rw [z, z3, if_pos rfl]
      rw [if_neg z2] at e
      exact e
  refine ⟨hb, lens h.rl, lens h.bl, h.rv, fun hw => ?_, grow h.bb, fun q hq => ?_, ?_, ?_, ?_, ?_, h.kb.snoc hb.k0 (Int.le_trans hb.km v.mle), ?_, ?_, ?_⟩
  · -- stalls
    have hw : (beat T o W.s x).w = 2 := hw
    rw [e2] at hw
    obtain ⟨z1, z2⟩ := hpq.st hw
    show (if W.s.p < (beat T o W.s x).p then W.stalls else if (beat T o W.s x).w = 2 then bump (if W.s.w = 1 then W.stalls ++ [((W.b : Int), 0)] else W.stalls) else W.stalls) ≠ []
    rw [e1, e2, z1, if_neg (by omega), if_pos hw]
    refine bump_ne ?_
    split
    · simp
    · rename_i hw1
      refine h.st ?_
      rcases h.s.go with ⟨g1, _⟩ | ⟨_, g | g⟩
      · exact absurd g1 z2
      · exact absurd g hw1
      · exact g
  · -- the last fetch
    have hq : (if W.s.n < (beat T o W.s x).n then some (T.S W.s.n W.s.c, (W.b : Int) + 1 - W.begun.getLastD 0) else W.sl) = some q := hq
    show (1 ≤ q.1 ∧ q.1 ≤ 16) ∧ 1 ≤ q.2 ∧ q.2 ≤ ((W.b + 1 : Nat) : Int)
    split at hq
    · rename_i hlt
      have e := Option.some.inj hq
      subst e
      rcases hn with z | ⟨z, z2, z3⟩
      · omega
      · rcases h.s.com with ⟨c1, _⟩ | ⟨c1, c2, c3, _⟩
        · exact absurd c1 z2
        · refine ⟨t.S1 c3 c1 c2, ?_⟩
          have hbl := h.bl
          rw [if_neg z2] at hbl
          have := h.bb _ (getLastD_mem (l := W.begun) (by intro e; rw [e] at hbl; simp at hbl))
          dsimp only
          omega
    · obtain ⟨q1, q2, q3⟩ := h.sl q hq
      exact ⟨q1, q2, by omega⟩
  · show (W.kept ++ [_]).length = W.b + 1
    rw [List.length_append, h.kl]; rfl
  · show (if _ then W.plays ++ [_] else W.plays).length ≤ W.b + 1
    have := h.pl
    split
    · rw [List.length_append]; exact Nat.succ_le_succ this
    · omega
  · show (if _ then W.whole ++ [_] else W.whole).length ≤ W.b + 1
    have := h.wl
    split
    · rw [List.length_append]; exact Nat.succ_le_succ this
    · omega
  · show (if W.s.p < (beat T o W.s x).p then W.stalls else if (beat T o W.s x).w = 2 then bump (if W.s.w = 1 then W.stalls ++ [((W.b : Int), 0)] else W.stalls) else W.stalls).length ≤ W.b + 1
    have := h.tl
    split
    · omega
    · split
      · rw [bump_len]
        split
        · rw [List.length_append]; exact Nat.succ_le_succ this
        · omega
      · omega
  · show Bd ((W.b + 1 : Nat) : Int) (if _ then W.plays ++ [_] else W.plays)
    split
    · exact (grow h.pb).snoc (by omega) (by omega)
    · exact grow h.pb
  · show Bd ((W.b + 1 : Nat) : Int) (if _ then W.whole ++ [_] else W.whole)
    split
    · exact (grow h.wb).snoc (by omega) (by omega)
    · exact grow h.wb
  · show Bd2 ((W.b + 1 : Nat) : Int) (if W.s.p < (beat T o W.s x).p then W.stalls else if (beat T o W.s x).w = 2 then bump (if W.s.w = 1 then W.stalls ++ [((W.b : Int), 0)] else W.stalls) else W.stalls)
    have mono2 : Bd2 ((W.b + 1 : Nat) : Int) W.stalls := fun q hq => by
      obtain ⟨⟨h1, h2⟩, h3, h4⟩ := h.tb q hq
      refine ⟨⟨h1, ?_⟩, h3, ?_⟩ <;> omega
    split
    · exact mono2
    · split
      · rw [hb1]
        refine bump_bd ?_
        split
        · intro q hq
          rcases List.mem_append.mp hq with hq | hq
          · exact h.tb q hq
          · have e : q = ((W.b : Int), 0) := by simpa using hq
            rw [e]
            refine ⟨⟨?_, ?_⟩, ?_, ?_⟩ <;> dsimp only <;> omega
        · exact h.tb
      · exact mono2
/-! ### the measure -/
def wrk (T : Tk) (o : Op) (s : Sd) : Nat := if s.c = -1 then (T.N - s.n) * (17 + o.wai).toNat else (T.N - s.n - 1) * (17 + o.wai).toNat + (T.S s.n s.c - s.g).toNat
def mu (T : Tk) (o : Op) (B : Nat) (W : Wk) : Nat := (B - W.b) + wrk T o W.s + (T.tot - W.s.p).toNat
theorem wrk_choose (t : TOk T) (v : OOk T o) (vc : Vch T ch) {W : Wk} (h : WOk T o W) : wrk T o (choose T o ch W).s ≤ wrk T o W.s := by
  unfold choose
  split
  · rename_i a
    obtain ⟨a1, a2, a3⟩ := asks_iff.mp a
    obtain ⟨r0, r1⟩ := vc W.s.n W.s.k W.rl W.sl a2
    generalize ch W.s.n W.s.k W.rl W.sl = r at r0 r1 ⊢
    have hS := t.S1 a2 r0 r1
    have hw := v.w
    show wrk T o (chos o W.s r) ≤ _
    unfold wrk
    have hc : ¬ (chos o W.s r).c = -1 := by show ¬ r = -1; omega
    rw [if_neg hc, if_pos a1]
    show (T.N - W.s.n - 1) * (17 + o.wai).toNat + (T.S W.s.n r - (0 - o.wai)).toNat ≤ _
    have e : (T.N - W.s.n) * (17 + o.wai).toNat = (T.N - W.s.n - 1) * (17 + o.wai).toNat + (17 + o.wai).toNat := by
      have : T.N - W.s.n = (T.N - W.s.n - 1) + 1 := by omega
      rw [this, Nat.succ_mul]
      simp
    rw [e]
    omega
  · exact Nat.le_refl _
theorem pld_room {s : Sd} (h : SOk T o s) (v : OOk T o) (hp : ¬ over T s) (hc : s.c = -1) (ha : asks T o s = false) : (pld T o s).2.1 = s.p + 1 := by
  have hr : room T o s = false := by
    unfold asks at ha
    rw [hc] at ha
    simpa using ha
  have hk : ¬ s.k = 0 := by
    intro hk
    have hn := notover_n h hp hk
    have hlt : s.n < T.N := by have := h.n; omega
    have := v.L hlt
    unfold room at hr
    simp only [Bool.and_eq_false_iff, decide_eq_false_iff_not] at hr
    omega
  have hb : begs T o s = true := by
    unfold begs
    rw [hr, hc]
    simp
  unfold pld
  rw [hb, if_neg (by simp), if_neg hk]
theorem mu_turn (t : TOk T) (v : OOk T o) (vc : Vch T ch) {B : Nat} {W : Wk} {x : Int} (h : WOk T o W) (hp : ¬ over T W.s) (hx : 0 ≤ x) (hB : B ≤ W.b → 1 ≤ x) :
    mu T o B (step T o (choose T o ch W) x) < mu T o B W := by
  have h1 := wrk_choose t v vc h
  have ha := choose_asks (T := T) (o := o) W vc
  have hp' : ¬ over T (choose T o ch W).s := by unfold over; rw [choose_p]; exact hp
  have hw := choose_ok t v vc h
  have eb := choose_b (T := T) (o := o) (ch := ch) W
  have ep := choose_p (T := T) (o := o) (ch := ch) W
  unfold mu
  rw [← eb, ← ep]
  rw [← eb] at hB
  generalize choose T o ch W = V at h1 ha hp' hw hB ⊢
  have hq := pld_ok t v hw.s hp'
  have ⟨e1, e2⟩ := beat_pw (T := T) (o := o) V.s x
  show (B - (V.b + 1)) + wrk T o (beat T o V.s x) + (T.tot - (beat T o V.s x).p).toNat < _
  rw [e1]
  have hple := hq.ple
  have hsum := hq.sum
  have hk0 := hq.k0
  have hs := hw.s.sum
  have hT := take_le t.one V.s.n
  have hT2 : T.tot = T.len.sum := rfl
  rcases hw.s.com with ⟨c1, c2⟩ | ⟨c1, c2, c3, c4, c5, c6⟩
  · have e3 := pld_room hw.s v hp' c1 ha
    have e4 : wrk T o (beat T o V.s x) = wrk T o V.s := by
      unfold beat wrk
      rw [if_pos c1]
    rw [e4, e3]
    omega
  · have hc : ¬ V.s.c = -1 := by omega
    have hS := t.S1 c3 c1 c2
    have lt : (B - (V.b + 1)) + wrk T o (beat T o V.s x) < (B - V.b) + wrk T o V.s := by
      have e0 : wrk T o V.s = (T.N - V.s.n - 1) * (17 + o.wai).toNat + (T.S V.s.n V.s.c - V.s.g).toNat := by unfold wrk; rw [if_neg hc]
      rw [e0]
      unfold beat
      rw [if_neg hc]
      have hG : V.s.g ≤ bg V.s x ∧ (V.s.g < bg V.s x ∨ (x = 0 ∧ V.b < B)) := by
        unfold bg
        split
        · omega
        · by_cases z : x = 0
          · refine ⟨by omega, .inr ⟨z, ?_⟩⟩
            by_cases zz : B ≤ V.b
            · have := hB zz; omega
            · omega
          · omega
      generalize bg V.s x = G at hG ⊢
      split
      · rename_i hg
        unfold wrk
        show _ + (if V.s.c = -1 then _ else (T.N - V.s.n - 1) * (17 + o.wai).toNat + (T.S V.s.n V.s.c - G).toNat) < _
        rw [if_neg hc]
        omega
      · unfold wrk
        show _ + (if (-1 : Int) = -1 then (T.N - (V.s.n + 1)) * (17 + o.wai).toNat else _) < _
        rw [if_pos rfl]
        have e5 : T.N - (V.s.n + 1) = T.N - V.s.n - 1 := by omega
        rw [e5]
        omega
    omega
theorem mu0_le (t : TOk T) (v : OOk T o) {B : Nat} (hB : B ≤ 100) : mu T o B wk0 ≤ 300 := by
  have h1 := t.tot30
  have h2 := v.w
  have h3 := t.le
  have e : mu T o B wk0 = (B - 0) + (T.N - 0) * (17 + o.wai).toNat + (T.tot - 0).toNat := rfl
  have h4 : (T.N - 0) * (17 + o.wai).toNat ≤ 6 * 27 := Nat.mul_le_mul (by omega) (by omega)
  omega
end
end RP
set_option maxHeartbeats 200000
namespace RP
/-! ### runs -/
def Rn (T : Tk) (o : Op) (ch : Ch) (spd : Nat → Int) : Nat → Wk
  | 0 => wk0
  | i + 1 => step T o (choose T o ch (Rn T o ch spd i)) (spd i)
/-- the run ends behind i beats, and no sooner -/
structure Fin' (T : Tk) (o : Op) (ch : Ch) (spd : Nat → Int) (i : Nat) : Prop where
  ov : over T (Rn T o ch spd i).s
  no : ∀ j, j < i → ¬ over T (Rn T o ch spd j).s
/-- a road: speeds from 0 on, from B on at least 1 -/
structure Rd1 (spd : Nat → Int) (B : Nat) : Prop where
  pos : ∀ i, 0 ≤ spd i
  last : ∀ i, B ≤ i → 1 ≤ spd i
  B : B ≤ 100
def planCh (pl : List Int) : Ch := fun n _ _ _ => pl.getD n 0
def zeroCh : Ch := fun _ _ _ _ => 0
theorem zero_plan (n : Nat) : planCh (List.replicate n 0) = zeroCh := by
  funext a b c d
  show (List.replicate n (0 : Int)).getD a 0 = 0
  rw [List.getD_eq_getElem?_getD, List.getElem?_replicate]
  split <;> rfl
section
variable {T : Tk} {o : Op} {ch ch' : Ch} {spd : Nat → Int} {s : Sd}
theorem Rn_b : ∀ i, (Rn T o ch spd i).b = i
  | 0 => rfl
  | i + 1 => by
    show (choose T o ch (Rn T o ch spd i)).b + 1 = i + 1
    rw [choose_b, Rn_b i]
theorem Rn_ok (t : TOk T) (v : OOk T o) (vc : Vch T ch) {B : Nat} (rd : Rd1 spd B) : ∀ i, (∀ j, j < i → ¬ over T (Rn T o ch spd j).s) → WOk T o (Rn T o ch spd i)
  | 0, _ => wk0_ok t v
  | i + 1, h => by
    have ih := Rn_ok t v vc rd i fun j hj => h j (Nat.lt_succ_of_lt hj)
    refine step_ok t v (choose_ok t v vc ih) ?_ (rd.pos i)
    unfold over
    rw [choose_p]
    exact h i (Nat.lt_succ_self i)
theorem Rn_mu (t : TOk T) (v : OOk T o) (vc : Vch T ch) {B : Nat} (rd : Rd1 spd B) {i : Nat} (h : ∀ j, j ≤ i → ¬ over T (Rn T o ch spd j).s) : mu T o B (Rn T o ch spd (i + 1)) < mu T o B (Rn T o ch spd i) := by
  refine mu_turn t v vc (Rn_ok t v vc rd i fun j hj => h j (Nat.le_of_lt hj)) (h i (Nat.le_refl _)) (rd.pos i) fun hb => ?_
  rw [Rn_b] at hb
  exact rd.last i hb
theorem Rn_le (t : TOk T) (v : OOk T o) (vc : Vch T ch) {B : Nat} (rd : Rd1 spd B) : ∀ i, (∀ j, j < i → ¬ over T (Rn T o ch spd j).s) → mu T o B (Rn T o ch spd i) + i ≤ 300
  | 0, _ => mu0_le t v rd.B
  | i + 1, h => by
    have ih := Rn_le t v vc rd i fun j hj => h j (Nat.lt_succ_of_lt hj)
    have := Rn_mu t v vc rd (i := i) fun j hj => h j (Nat.lt_succ_of_le hj)
    omega
theorem Fin'.le {i : Nat} (f : Fin' T o ch spd i) (t : TOk T) (v : OOk T o) (vc : Vch T ch) {B : Nat} (rd : Rd1 spd B) : i ≤ 300 := by
  have := Rn_le t v vc rd i f.no
  omega
theorem Fin'.uniq {i j : Nat} (f : Fin' T o ch spd i) (g : Fin' T o ch spd j) : i = j := by
  rcases Nat.lt_trichotomy i j with h | h | h
  · exact absurd f.ov (g.no i h)
  · exact h
  · exact absurd g.ov (f.no j h)
/-! ### two choosers that tell the same -/
theorem couple {n : Nat} (h : ∀ i, i < n → asks T o (Rn T o ch spd i).s = true → ch (Rn T o ch spd i).s.n (Rn T o ch spd i).s.k (Rn T o ch spd i).rl (Rn T o ch spd i).sl = ch' (Rn T o ch spd i).s.n (Rn T o ch spd i).s.k (Rn T o ch spd i).rl (Rn T o ch spd i).sl) :
    ∀ i, i ≤ n → Rn T o ch' spd i = Rn T o ch spd i
  | 0, _ => rfl
  | i + 1, hi => by
    have ih := couple h i (Nat.le_of_succ_le hi)
    show step T o (choose T o ch' (Rn T o ch' spd i)) (spd i) = step T o (choose T o ch (Rn T o ch spd i)) (spd i)
    rw [ih]
    have e : choose T o ch' (Rn T o ch spd i) = choose T o ch (Rn T o ch spd i) := by
      unfold choose
      by_cases a : asks T o (Rn T o ch spd i).s = true
      · rw [if_pos a, if_pos a, ← h i hi a]
      · rw [if_neg a, if_neg a]
    rw [e]
theorem Rn_pre (i : Nat) : ∃ l, (Rn T o ch spd (i + 1)).rates = (Rn T o ch spd i).rates ++ l := by
  show ∃ l, (choose T o ch (Rn T o ch spd i)).rates = _
  unfold choose
  split
  · exact ⟨_, rfl⟩
  · exact ⟨[], (List.append_nil _).symm⟩
theorem Rn_pre_le (i : Nat) : ∀ d, ∃ l, (Rn T o ch spd (i + d)).rates = (Rn T o ch spd i).rates ++ l
  | 0 => ⟨[], (List.append_nil _).symm⟩
  | d + 1 => by
    obtain ⟨l, e⟩ := Rn_pre_le i d
    obtain ⟨m, e2⟩ := Rn_pre (T := T) (o := o) (ch := ch) (spd := spd) (i + d)
    exact ⟨l ++ m, by rw [show i + (d + 1) = i + d + 1 from rfl, e2, e, List.append_assoc]⟩
/-- the rate told at a beat stands in the run's rates -/
theorem rate_in (t : TOk T) (v : OOk T o) (vc : Vch T ch) {B : Nat} (rd : Rd1 spd B) {n i : Nat} (no : ∀ j, j < n → ¬ over T (Rn T o ch spd j).s) (hi : i < n) (a : asks T o (Rn T o ch spd i).s = true) :
    ch (Rn T o ch spd i).s.n (Rn T o ch spd i).s.k (Rn T o ch spd i).rl (Rn T o ch spd i).sl = planCh (Rn T o ch spd n).rates (Rn T o ch spd i).s.n (Rn T o ch spd i).s.k (Rn T o ch spd i).rl (Rn T o ch spd i).sl := by
  have w := Rn_ok t v vc rd i fun j hj => no j (Nat.lt_trans hj hi)
  obtain ⟨a1, _, _⟩ := asks_iff.mp a
  have e1 := w.rl
  rw [if_pos a1, Nat.add_zero] at e1
  have e2 : (Rn T o ch spd (i + 1)).rates = (Rn T o ch spd i).rates ++ [ch (Rn T o ch spd i).s.n (Rn T o ch spd i).s.k (Rn T o ch spd i).rl (Rn T o ch spd i).sl] := by
    show (choose T o ch (Rn T o ch spd i)).rates = _
    unfold choose
    rw [if_pos a]
  obtain ⟨l, e3⟩ := Rn_pre_le (T := T) (o := o) (ch := ch) (spd := spd) (i + 1) (n - (i + 1))
  have e4 : i + 1 + (n - (i + 1)) = n := by omega
  rw [e4, e2, List.append_assoc] at e3
  show _ = (Rn T o ch spd n).rates.getD (Rn T o ch spd i).s.n 0
  rw [e3, List.getD_eq_getElem?_getD, ← e1, List.getElem?_append_right (Nat.le_refl _), Nat.sub_self]
  rfl
/-- a run by a rule is the run by the plan of the rates that it told -/
theorem run_plan (t : TOk T) (v : OOk T o) (vc : Vch T ch) {B : Nat} (rd : Rd1 spd B) {n : Nat} (no : ∀ j, j < n → ¬ over T (Rn T o ch spd j).s) : ∀ i, i ≤ n → Rn T o (planCh (Rn T o ch spd n).rates) spd i = Rn T o ch spd i :=
  couple fun _ hi a => rate_in t v vc rd no hi a
theorem over_n (h : SOk T o s) (t : TOk T) (hp : over T s) : s.n = T.N ∧ s.c = -1 := by
  have h1 := h.sum
  have h2 := h.k0
  have h3 : s.p = T.len.sum := hp
  have h4 : s.n = T.N := by
    rcases Nat.lt_or_ge s.n T.N with z | z
    · have := take_lt t.one s.n z
      omega
    · have := h.n
      omega
  refine ⟨h4, ?_⟩
  rcases h.com with c | c
  · exact c.1
  · omega
theorem Fin'.rates_len {i : Nat} (f : Fin' T o ch spd i) (t : TOk T) (v : OOk T o) (vc : Vch T ch) {B : Nat} (rd : Rd1 spd B) : (Rn T o ch spd i).rates.length = T.N := by
  have w := Rn_ok t v vc rd i f.no
  obtain ⟨e1, e2⟩ := over_n w.s t f.ov
  have := w.rl
  rw [if_pos e2, e1] at this
  exact this
theorem Fin'.rates_ok {i : Nat} (f : Fin' T o ch spd i) (t : TOk T) (v : OOk T o) (vc : Vch T ch) {B : Nat} (rd : Rd1 spd B) : ∀ r ∈ (Rn T o ch spd i).rates, 0 ≤ r ∧ r < T.W := (Rn_ok t v vc rd i f.no).rv
theorem Fin'.plan {i : Nat} (f : Fin' T o ch spd i) (t : TOk T) (v : OOk T o) (vc : Vch T ch) {B : Nat} (rd : Rd1 spd B) : Fin' T o (planCh (Rn T o ch spd i).rates) spd i := by
  have h := run_plan t v vc rd f.no
  refine ⟨?_, fun j hj => ?_⟩
  · rw [h i (Nat.le_refl _)]; exact f.ov
  · rw [h j (Nat.le_of_lt hj)]; exact f.no j hj
/-- a run by a plan tells the plan -/
theorem plan_rates (t : TOk T) (v : OOk T o) {pl : List Int} (vc : Vch T (planCh pl)) {B : Nat} (rd : Rd1 spd B) : ∀ i, (∀ j, j < i → ¬ over T (Rn T o (planCh pl) spd j).s) → ∀ k, k < (Rn T o (planCh pl) spd i).rates.length → (Rn T o (planCh pl) spd i).rates[k]? = some (pl.getD k 0)
  | 0, _, k, h => by simp [Rn, wk0] at h
  | i + 1, no, k, h => by
    have ih := plan_rates t v vc rd i (fun j hj => no j (Nat.lt_succ_of_lt hj))
    have w := Rn_ok t v vc rd i fun j hj => no j (Nat.lt_succ_of_lt hj)
    have e : (Rn T o (planCh pl) spd (i + 1)).rates = (choose T o (planCh pl) (Rn T o (planCh pl) spd i)).rates := rfl
    rw [e] at h ⊢
    unfold choose at h ⊢
    by_cases a : asks T o (Rn T o (planCh pl) spd i).s = true
    · rw [if_pos a] at h ⊢
      obtain ⟨a1, _, _⟩ := asks_iff.mp a
      have e1 := w.rl
      rw [if_pos a1, Nat.add_zero] at e1
      dsimp only at h ⊢
      rw [List.length_append] at h
      by_cases hk : k < (Rn T o (planCh pl) spd i).rates.length
      · rw [List.getElem?_append_left hk]; exact ih k hk
      · have hk2 : k = (Rn T o (planCh pl) spd i).rates.length := by
          have : ([planCh pl (Rn T o (planCh pl) spd i).s.n (Rn T o (planCh pl) spd i).s.k (Rn T o (planCh pl) spd i).rl (Rn T o (planCh pl) spd i).sl] : List Int).length = 1 := rfl
          omega
        rw [List.getElem?_append_right (by omega), hk2, Nat.sub_self, e1]
        rfl
    · rw [if_neg a] at h ⊢
      exact ih k h
theorem Fin'.plan_rates {i : Nat} {pl : List Int} (f : Fin' T o (planCh pl) spd i) (t : TOk T) (v : OOk T o) (vc : Vch T (planCh pl)) {B : Nat} (rd : Rd1 spd B) (hl : pl.length = T.N) : (Rn T o (planCh pl) spd i).rates = pl := by
  have h := RP.plan_rates t v vc rd i f.no
  have e := f.rates_len t v vc rd
  refine List.ext_getElem? fun k => ?_
  by_cases hk : k < (Rn T o (planCh pl) spd i).rates.length
  · rw [h k hk, List.getD_eq_getElem?_getD, List.getElem?_eq_getElem (by omega)]
    rfl
  · rw [List.getElem?_eq_none (by omega), List.getElem?_eq_none (by omega)]
/-! ### a tape -/
def Tp (T : Tk) (o : Op) (ch : Ch) (spd : Nat → Int) : Nat → Wk
  | 0 => choose T o ch wk0
  | i + 1 => if over T (Tp T o ch spd i).s then Tp T o ch spd i else choose T o ch (step T o (Tp T o ch spd i) (spd i))
theorem Tp_Rn {n : Nat} (no : ∀ j, j < n → ¬ over T (Rn T o ch spd j).s) : ∀ i, i ≤ n → Tp T o ch spd i = choose T o ch (Rn T o ch spd i)
  | 0, _ => rfl
  | i + 1, hi => by
    have ih := Tp_Rn no i (Nat.le_of_succ_le hi)
    show (if over T (Tp T o ch spd i).s then _ else choose T o ch (step T o (Tp T o ch spd i) (spd i))) = _
    rw [ih, if_neg]
    · rfl
    · unfold over
      rw [choose_p]
      exact no i hi
theorem Tp_ok (t : TOk T) (v : OOk T o) (vc : Vch T ch) (pos : ∀ i, 0 ≤ spd i) : ∀ i, WOk T o (Tp T o ch spd i) ∧ (Tp T o ch spd i).b ≤ i
  | 0 => ⟨choose_ok t v vc (wk0_ok t v), by show (choose T o ch wk0).b ≤ 0; rw [choose_b]; exact Nat.le_refl _⟩
  | i + 1 => by
    obtain ⟨h1, h2⟩ := Tp_ok t v vc pos i
    show WOk T o (if over T (Tp T o ch spd i).s then _ else _) ∧ (if over T (Tp T o ch spd i).s then _ else _ : Wk).b ≤ i + 1
    split
    · exact ⟨h1, Nat.le_succ_of_le h2⟩
    · rename_i hp
      refine ⟨choose_ok t v vc (step_ok t v h1 hp (pos i)), ?_⟩
      rw [choose_b]
      exact Nat.succ_le_succ h2
/-- speeds told of the run's beats alone -/
theorem Tp_cut {spd' : Nat → Int} {n : Nat} (e : ∀ i, i < n → spd' i = spd i) : ∀ i, i ≤ n → Tp T o ch spd' i = Tp T o ch spd i
  | 0, _ => rfl
  | i + 1, hi => by
    have ih := Tp_cut e i (Nat.le_of_succ_le hi)
    show (if over T (Tp T o ch spd' i).s then _ else choose T o ch (step T o (Tp T o ch spd' i) (spd' i))) = (if over T (Tp T o ch spd i).s then _ else choose T o ch (step T o (Tp T o ch spd i) (spd i)))
    rw [ih, e i hi]
theorem choose_same {W : Wk} (h : asks T o W.s = true → ch W.s.n W.s.k W.rl W.sl = ch' W.s.n W.s.k W.rl W.sl) : choose T o ch' W = choose T o ch W := by
  unfold choose
  by_cases a : asks T o W.s = true
  · rw [if_pos a, if_pos a, ← h a]
  · rw [if_neg a, if_neg a]
/-- a tape by a rule, a tape by the run's rates -/
theorem tape_same (t : TOk T) (v : OOk T o) (vc : Vch T ch) {B : Nat} (rd : Rd1 spd B) {n : Nat} (f : Fin' T o ch spd n) : ∀ i, i ≤ n → Tp T o (planCh (Rn T o ch spd n).rates) spd i = Tp T o ch spd i := fun i hi => by
  have h := run_plan t v vc rd f.no
  rw [Tp_Rn f.no i hi, Tp_Rn (fun j hj => by rw [h j (Nat.le_of_lt hj)]; exact f.no j hj) i hi, h i hi]
  refine choose_same fun a => ?_
  rcases Nat.lt_or_ge i n with z | z
  · exact rate_in t v vc rd f.no z a
  · have e : i = n := Nat.le_antisymm hi z
    subst e
    obtain ⟨_, a2, _⟩ := asks_iff.mp a
    have := (over_n (Rn_ok t v vc rd i f.no).s t f.ov).1
    omega
end
end RP
set_option maxHeartbeats 200000
namespace RP
/-! ### roads of a kind, watches -/
structure Kd where
  slow : Int
  fast : Int
  many : Int
  wide : Nat
structure KOk (kd : Kd) : Prop where
  s0 : 0 ≤ kd.slow
  sf : kd.slow < kd.fast
  f : kd.fast ≤ 100
  m0 : 0 ≤ kd.many
  mw : kd.many < kd.wide
  w : kd.wide ≤ 6
structure Wt where
  s : Sd
  r : Int
  la : Option (Int × Int)
  we : Int
  pa : List Int
deriving DecidableEq
def bit (kd : Kd) (v : Int) : Int := if v = kd.slow then 1 else 0
def spds (kd : Kd) (w : Wt) : List Int := if w.pa.sum < kd.many then [kd.slow, kd.fast] else [kd.fast]
def wt0 (o : Op) (ch : Ch) (kd : Kd) : Wt := ⟨chos o sd0 (ch 0 0 none none), ch 0 0 none none, none, 0, List.replicate (kd.wide - 1) 0⟩
/-- behind the beat: the last fetch, how long the next one goes -/
def laOf (T : Tk) (o : Op) (w : Wt) (v : Int) : Option (Int × Int) := if w.s.n < (beat T o w.s v).n then some (T.S w.s.n w.s.c, w.we + (if w.s.c = -1 then 0 else 1)) else w.la
def weOf (T : Tk) (o : Op) (w : Wt) (v : Int) : Int := if w.s.n < (beat T o w.s v).n then 0 else w.we + (if w.s.c = -1 then 0 else 1)
def rOf (T : Tk) (o : Op) (ch : Ch) (w : Wt) (v : Int) : Int := if asks T o (beat T o w.s v) = true then ch (beat T o w.s v).n (beat T o w.s v).k (some w.r) (laOf T o w v) else w.r
def sOf (T : Tk) (o : Op) (ch : Ch) (w : Wt) (v : Int) : Sd := if asks T o (beat T o w.s v) = true then chos o (beat T o w.s v) (rOf T o ch w v) else beat T o w.s v
def nxt (T : Tk) (o : Op) (ch : Ch) (kd : Kd) (w : Wt) (v : Int) : Wt := ⟨sOf T o ch w v, rOf T o ch w v, laOf T o w v, weOf T o w v, (w.pa ++ [bit kd v]).drop 1⟩
def led (T : Tk) (o : Op) (ch : Ch) (kd : Kd) (w : Wt) (v : Int) : Bool × Option Wt :=
  (decide ((beat T o w.s v).w = 2), if over T (beat T o w.s v) then none else some (nxt T o ch kd w v))
structure WtOk (T : Tk) (o : Op) (kd : Kd) (w : Wt) : Prop where
  s : SOk T o w.s
  no : ¬ over T w.s
  na : asks T o w.s = false
  r : 0 ≤ w.r ∧ w.r < T.W
  c : w.s.c = -1 ∨ w.s.c = w.r
  we : 0 ≤ w.we
  we0 : w.s.c = -1 → w.we = 0
  la0 : w.s.n = 0 → w.la = none
  la1 : w.s.n ≠ 0 → ∃ q, w.la = some q ∧ (1 ≤ q.1 ∧ q.1 ≤ 16) ∧ 1 ≤ q.2
  pl : w.pa.length = kd.wide - 1
  pb : ∀ x ∈ w.pa, x = 0 ∨ x = 1
  ps : w.pa.sum ≤ kd.many
/-- how great its numbers are -/
def WtB (B : Int) (w : Wt) : Prop := w.we ≤ B ∧ ∀ q, w.la = some q → q.2 ≤ B
theorem sum_rep0 : ∀ n, (List.replicate n (0 : Int)).sum = 0
  | 0 => rfl
  | n + 1 => by rw [List.replicate_succ, List.sum_cons, sum_rep0 n]; rfl
theorem sum_nn : ∀ {l : List Int}, (∀ x ∈ l, x = 0 ∨ x = 1) → 0 ≤ l.sum
  | [], _ => Int.le_refl _
  | a :: l, h => by
    have := sum_nn (l := l) fun x hx => h x (List.mem_cons_of_mem _ hx)
    rcases h a (List.mem_cons_self ..) with e | e <;> (rw [List.sum_cons]; omega)
theorem sum_app (l m : List Int) : (l ++ m).sum = l.sum + m.sum := by simp
section
variable {T : Tk} {o : Op} {ch : Ch} {kd : Kd}
theorem bit01 (v : Int) : bit kd v = 0 ∨ bit kd v = 1 := by
  unfold bit
  split
  · exact .inr rfl
  · exact .inl rfl
theorem wt0_ok (t : TOk T) (v : OOk T o) (vc : Vch T ch) (k : KOk kd) : WtOk T o kd (wt0 o ch kd) := by
  have hp := t.pos
  have hr := vc 0 0 none none hp
  have h0 := sd0_ok t v
  have hL := v.L hp
  have ha : asks T o sd0 = true := asks_iff.mpr ⟨rfl, hp, by show (0 : Int) + T.L 0 ≤ o.mst; omega⟩
  have hk := k.m0
  have tot := t.tot1
  refine ⟨chos_ok t v h0 ha hr.1 hr.2, ?_, ?_, hr, .inr rfl, Int.le_refl _, fun _ => rfl, fun _ => rfl, fun h => absurd rfl h, List.length_replicate .., fun x hx => .inl (List.eq_of_mem_replicate hx), ?_⟩
  · show ¬ (0 : Int) = T.tot
    omega
  · cases e : asks T o (wt0 o ch kd).s with
    | false => rfl
    | true =>
      obtain ⟨b1, _, _⟩ := asks_iff.mp e
      have b1 : ch 0 0 none none = -1 := b1
      omega
  · show (List.replicate (kd.wide - 1) (0 : Int)).sum ≤ kd.many
    rw [sum_rep0]; exact hk
theorem spds_pos (k : KOk kd) {w : Wt} {v : Int} (h : v ∈ spds kd w) : 0 ≤ v ∧ v ≤ 100 := by
  have := k.s0
  have := k.sf
  have := k.f
  unfold spds at h
  split at h
  · rcases List.mem_cons.mp h with e | h
    · omega
    · have e : v = kd.fast := by simpa using h
      omega
  · have e : v = kd.fast := by simpa using h
    omega
theorem spds_room (k : KOk kd) {w : Wt} (hs : w.pa.sum ≤ kd.many) {v : Int} (h : v ∈ spds kd w) : w.pa.sum + bit kd v ≤ kd.many := by
  have := k.sf
  unfold spds at h
  split at h
  · rcases bit01 (kd := kd) v with e | e <;> omega
  · have e : v = kd.fast := by simpa using h
    unfold bit
    rw [if_neg (by omega)]
    omega
theorem drop1_sum {l : List Int} (h : ∀ x ∈ l, x = 0 ∨ x = 1) : (l.drop 1).sum ≤ l.sum := by
  cases l with
  | nil => exact Int.le_refl _
  | cons a l =>
    have : (a :: l).sum = a + l.sum := List.sum_cons
    show l.sum ≤ (a :: l).sum
    rcases h a (List.mem_cons_self ..) with e | e <;> omega
theorem nxt_ok (t : TOk T) (o' : OOk T o) (vc : Vch T ch) (k : KOk kd) {w : Wt} {v : Int} (h : WtOk T o kd w) (hv : v ∈ spds kd w) (hp : ¬ over T (beat T o w.s v)) : WtOk T o kd (nxt T o ch kd w v) := by
  have hv0 := (spds_pos k hv).1
  have hb := beat_ok t o' h.s h.no hv0
  have hn := beat_n (T := T) (o := o) w.s v
  have hcc := beat_c (T := T) (o := o) w.s v
  have hwe := h.we
  have bits : ∀ x ∈ w.pa ++ [bit kd v], x = 0 ∨ x = 1 := fun x hx => by
    rcases List.mem_append.mp hx with hx | hx
    · exact h.pb x hx
    · have e : x = bit kd v := by simpa using hx
      rw [e]; exact bit01 v
  have hw : 0 ≤ weOf T o w v := by
    unfold weOf
    split
    · exact Int.le_refl _
    · split <;> omega
  have sn : (nxt T o ch kd w v).s.n = (beat T o w.s v).n := by
    show (sOf T o ch w v).n = _
    unfold sOf
    split <;> rfl
  have la1 : (beat T o w.s v).n ≠ 0 → ∃ q, laOf T o w v = some q ∧ (1 ≤ q.1 ∧ q.1 ≤ 16) ∧ 1 ≤ q.2 := fun z => by
    unfold laOf
    split
    · rename_i hlt
      rcases hn with e | ⟨e, c1, c2⟩
      · omega
      · rcases h.s.com with c | ⟨d1, d2, d3, _⟩
        · exact absurd c.1 c1
        · refine ⟨_, rfl, t.S1 d3 d1 d2, ?_⟩
          dsimp only
          rw [if_neg c1]
          omega
    · rename_i hlt
      rcases hn with e | ⟨e, _, _⟩
      · rw [e] at z
        exact h.la1 z
      · omega
  have pl : ((w.pa ++ [bit kd v]).drop 1).length = kd.wide - 1 := by
    rw [List.length_drop, List.length_append, h.pl]
    show kd.wide - 1 + 1 - 1 = _
    omega
  have ps : ((w.pa ++ [bit kd v]).drop 1).sum ≤ kd.many := by
    have h1 := drop1_sum bits
    have h2 := spds_room k h.ps hv
    rw [sum_app, List.sum_singleton] at h1
    omega
  have pb : ∀ x ∈ (w.pa ++ [bit kd v]).drop 1, x = 0 ∨ x = 1 := fun x hx => bits x (List.mem_of_mem_drop hx)
  have la0 : (nxt T o ch kd w v).s.n = 0 → laOf T o w v = none := fun z => by
    rw [sn] at z
    rcases hn with e | ⟨e, _, _⟩
    · unfold laOf
      rw [if_neg (by omega)]
      exact h.la0 (by omega)
    · omega
  have la1' : (nxt T o ch kd w v).s.n ≠ 0 → ∃ q, laOf T o w v = some q ∧ (1 ≤ q.1 ∧ q.1 ≤ 16) ∧ 1 ≤ q.2 := fun z => la1 (by rw [sn] at z; exact z)
  by_cases a : asks T o (beat T o w.s v) = true
  · obtain ⟨a1, a2, a3⟩ := asks_iff.mp a
    have er : rOf T o ch w v = ch (beat T o w.s v).n (beat T o w.s v).k (some w.r) (laOf T o w v) := if_pos a
    have hr := vc (beat T o w.s v).n (beat T o w.s v).k (some w.r) (laOf T o w v) a2
    rw [← er] at hr
    have es : sOf T o ch w v = chos o (beat T o w.s v) (rOf T o ch w v) := if_pos a
    refine ⟨?_, ?_, ?_, hr, .inr ?_, hw, fun z => ?_, la0, la1', pl, pb, ps⟩
    · show SOk T o (sOf T o ch w v)
      rw [es]; exact chos_ok t o' hb a hr.1 hr.2
    · show ¬ over T (sOf T o ch w v)
      rw [es]; exact hp
    · show asks T o (sOf T o ch w v) = false
      rw [es]
      cases e : asks T o (chos o (beat T o w.s v) (rOf T o ch w v)) with
      | false => rfl
      | true =>
        obtain ⟨b1, _, _⟩ := asks_iff.mp e
        have b1 : rOf T o ch w v = -1 := b1
        omega
    · show (sOf T o ch w v).c = rOf T o ch w v
      rw [es]; rfl
    · have z : (sOf T o ch w v).c = -1 := z
      rw [es] at z
      have z : rOf T o ch w v = -1 := z
      omega
  · have er : rOf T o ch w v = w.r := if_neg a
    have es : sOf T o ch w v = beat T o w.s v := if_neg a
    have hc : (beat T o w.s v).c = -1 ∨ ((beat T o w.s v).c = w.r ∧ (beat T o w.s v).n = w.s.n) := by
      rcases hn with e | ⟨e, c1, c2⟩
      · rcases h.c with c | c
        · exact .inl (by rw [hcc e]; exact c)
        · exact .inr ⟨by rw [hcc e]; exact c, e⟩
      · exact .inl c2
    refine ⟨?_, ?_, ?_, ?_, ?_, hw, fun z => ?_, la0, la1', pl, pb, ps⟩
    · show SOk T o (sOf T o ch w v)
      rw [es]; exact hb
    · show ¬ over T (sOf T o ch w v)
      rw [es]; exact hp
    · show asks T o (sOf T o ch w v) = false
      rw [es]; simpa using a
    · show 0 ≤ rOf T o ch w v ∧ rOf T o ch w v < T.W
      rw [er]; exact h.r
    · show (sOf T o ch w v).c = -1 ∨ (sOf T o ch w v).c = rOf T o ch w v
      rw [es, er]
      rcases hc with c | c
      · exact .inl c
      · exact .inr c.1
    · have z : (sOf T o ch w v).c = -1 := z
      rw [es] at z
      show weOf T o w v = 0
      unfold weOf
      split
      · rfl
      · rename_i hlt
        rcases hn with e | ⟨e, c1, c2⟩
        · rw [hcc e] at z
          rw [if_pos z, h.we0 z]
          rfl
        · omega
theorem nxt_b {B : Int} {w : Wt} {v : Int} (h : WtB B w) (h0 : 0 ≤ w.we) : WtB (B + 1) (nxt T o ch kd w v) := by
  obtain ⟨h1, h2⟩ := h
  refine ⟨?_, fun q hq => ?_⟩
  · show weOf T o w v ≤ B + 1
    unfold weOf
    split
    · omega
    · split <;> omega
  · have hq : laOf T o w v = some q := hq
    unfold laOf at hq
    split at hq
    · have e := Option.some.inj hq
      subst e
      dsimp only
      split <;> omega
    · have := h2 q hq
      omega
/-! ### the search -/
abbrev Ent := List (Wt × Option (Wt × Int))
def keys (ent : Ent) : List Wt := ent.map (·.1)
def come (ent : Ent) (b : Option Wt) (a : Wt) (v : Int) : Option Ent := match b with
  | none => some ent
  | some w => if w ∈ keys ent then some ent else if ent.length = 150 then none else some (ent ++ [(w, some (a, v))])
inductive Sc where
  | go (ent : Ent)
  | stop (v : Int) (ent : Ent)
  | many
inductive Out where
  | many
  | stalls (road : List Int)
  | never (ws : List Wt)
def scan (T : Tk) (o : Op) (ch : Ch) (kd : Kd) (a : Wt) : List Int → Ent → Sc
  | [], ent => .go ent
  | v :: vs, ent => if (led T o ch kd a v).1 = true then .stop v ent else match come ent (led T o ch kd a v).2 a v with
    | none => .many
    | some ent' => scan T o ch kd a vs ent'
def wayOf (ent : Ent) (w : Wt) : Option (Wt × Int) := match ent.find? (fun e => decide (e.1 = w)) with
  | some e => e.2
  | none => none
def backs (ent : Ent) : Nat → Wt → List Int
  | 0, _ => []
  | f + 1, w => match wayOf ent w with
    | some q => q.2 :: backs ent f q.1
    | none => []
def roadTo (ent : Ent) (w : Wt) (v : Int) : List Int := (v :: backs ent ent.length w).reverse
def bfs (T : Tk) (o : Op) (ch : Ch) (kd : Kd) : Nat → Nat → Ent → Out
  | 0, _, _ => .many
  | f + 1, i, ent => match ent[i]? with
    | none => .never (keys ent)
    | some e => match scan T o ch kd e.1 (spds kd e.1) ent with
      | .go ent' => bfs T o ch kd f (i + 1) ent'
      | .stop v ent' => .stalls (roadTo ent' e.1 v)
      | .many => .many
def search (T : Tk) (o : Op) (ch : Ch) (kd : Kd) : Out := bfs T o ch kd 151 0 [(wt0 o ch kd, none)]
structure BInv (T : Tk) (o : Op) (ch : Ch) (kd : Kd) (ent : Ent) : Prop where
  e0 : ent[0]? = some (wt0 o ch kd, none)
  nd : (keys ent).Nodup
  len : ent.length ≤ 150
  par : ∀ (i : Nat) e, ent[i]? = some e → 0 < i → ∃ (a : Wt) (v : Int) (j : Nat) (ea : Wt × Option (Wt × Int)), e.2 = some (a, v) ∧ j < i ∧ ent[j]? = some ea ∧ ea.1 = a ∧ v ∈ spds kd a ∧ led T o ch kd a v = (false, some e.1)
  ok : ∀ e ∈ ent, WtOk T o kd e.1
  bd : ∀ (i : Nat) e, ent[i]? = some e → WtB i e.1
/-- what is led to from the watch is there -/
def Closed (T : Tk) (o : Op) (ch : Ch) (kd : Kd) (ent : Ent) (a : Wt) (v : Int) : Prop := (led T o ch kd a v).1 = false ∧ ∀ b, (led T o ch kd a v).2 = some b → b ∈ keys ent
theorem Closed.app {ent l : Ent} {a : Wt} {v : Int} (h : Closed T o ch kd ent a v) : Closed T o ch kd (ent ++ l) a v := ⟨h.1, fun b hb => by
  have := h.2 b hb
  unfold keys at this ⊢
  rw [List.map_append]
  exact List.mem_append_left _ this⟩
theorem binv0 (t : TOk T) (v : OOk T o) (vc : Vch T ch) (k : KOk kd) : BInv T o ch kd [(wt0 o ch kd, none)] := by
  refine ⟨rfl, by simp [keys], by simp, fun i e h hi => ?_, fun e he => ?_, fun i e h => ?_⟩
  · rw [List.getElem?_eq_none (show [(wt0 o ch kd, (none : Option (Wt × Int)))].length ≤ i from hi)] at h
    cases h
  · have e2 : e = (wt0 o ch kd, none) := by simpa using he
    rw [e2]
    exact wt0_ok t v vc k
  · cases i with
    | zero =>
      have e2 : e = (wt0 o ch kd, none) := by
        have : some (wt0 o ch kd, none) = some e := h
        exact (Option.some.inj this).symm
      rw [e2]
      exact ⟨Int.le_refl _, fun q hq => by cases hq⟩
    | succ i =>
      rw [List.getElem?_eq_none (by simp)] at h
      cases h
theorem come_inv (t : TOk T) (v' : OOk T o) (vc : Vch T ch) (k : KOk kd) {ent ent' : Ent} {i : Nat} {e : Wt × Option (Wt × Int)} {v : Int} (B : BInv T o ch kd ent) (hi : ent[i]? = some e) (hv : v ∈ spds kd e.1) (h1 : (led T o ch kd e.1 v).1 = false)
    (h : come ent (led T o ch kd e.1 v).2 e.1 v = some ent') : BInv T o ch kd ent' ∧ (∃ l, ent' = ent ++ l) ∧ Closed T o ch kd ent' e.1 v := by
  have hmem : e ∈ ent := List.mem_of_getElem? hi
  have hilt : i < ent.length := (List.getElem?_eq_some_iff.mp hi).1
  cases hb : (led T o ch kd e.1 v).2 with
  | none =>
    rw [hb] at h
    have e2 := Option.some.inj h
    subst e2
    exact ⟨B, ⟨[], (List.append_nil _).symm⟩, h1, fun b z => by rw [hb] at z; cases z⟩
  | some w =>
    rw [hb] at h
    have hled : led T o ch kd e.1 v = (false, some w) := Prod.ext h1 hb
    have hnx : w = nxt T o ch kd e.1 v ∧ ¬ over T (beat T o e.1.s v) := by
      have hb2 : (if over T (beat T o e.1.s v) then none else some (nxt T o ch kd e.1 v)) = some w := hb
      split at hb2
      · cases hb2
      · rename_i z
        exact ⟨(Option.some.inj hb2).symm, z⟩
    unfold come at h
    dsimp only at h
    split at h
    · rename_i hk
      have e2 := Option.some.inj h
      subst e2
      exact ⟨B, ⟨[], (List.append_nil _).symm⟩, h1, fun b z => by rw [hb] at z; cases z; exact hk⟩
    · rename_i hk
      split at h
      · cases h
      · rename_i hlen
        have e2 := Option.some.inj h
        subst e2
        have hl := B.len
        have hpos : 0 < ent.length := by omega
        refine ⟨⟨?_, ?_, ?_, fun j x hx hj => ?_, fun x hx => ?_, fun j x hx => ?_⟩, ⟨_, rfl⟩, h1, fun b z => ?_⟩
        · rw [List.getElem?_append_left hpos]; exact B.e0
        · unfold keys
          rw [List.map_append]
          refine List.nodup_append.mpr ⟨B.nd, by simp, fun a ha b hb => ?_⟩
          have e3 : b = w := by simpa using hb
          rw [e3]
          intro e4
          exact hk (e4 ▸ ha)
        · rw [List.length_append]
          show ent.length + 1 ≤ 150
          omega
        · by_cases hj2 : j < ent.length
          · rw [List.getElem?_append_left hj2] at hx
            obtain ⟨a, u, m, ea, p1, p2, p3, p4⟩ := B.par j x hx hj
            exact ⟨a, u, m, ea, p1, p2, by rw [List.getElem?_append_left (by omega)]; exact p3, p4⟩
          · have hj3 : j = ent.length := by
              have := (List.getElem?_eq_some_iff.mp hx).1
              rw [List.length_append] at this
              have : ([(w, some (e.1, v))] : Ent).length = 1 := rfl
              omega
            subst hj3
            rw [List.getElem?_append_right (Nat.le_refl _), Nat.sub_self] at hx
            have e3 : x = (w, some (e.1, v)) := (Option.some.inj hx).symm
            subst e3
            exact ⟨e.1, v, i, e, rfl, hilt, by rw [List.getElem?_append_left hilt]; exact hi, rfl, hv, hled⟩
        · rcases List.mem_append.mp hx with hx | hx
          · exact B.ok x hx
          · have e3 : x = (w, some (e.1, v)) := by simpa using hx
            subst e3
            show WtOk T o kd w
            rw [hnx.1]
            exact nxt_ok t v' vc k (B.ok e hmem) hv hnx.2
        · by_cases hj2 : j < ent.length
          · rw [List.getElem?_append_left hj2] at hx
            exact B.bd j x hx
          · have hj3 : j = ent.length := by
              have := (List.getElem?_eq_some_iff.mp hx).1
              rw [List.length_append] at this
              have : ([(w, some (e.1, v))] : Ent).length = 1 := rfl
              omega
            subst hj3
            rw [List.getElem?_append_right (Nat.le_refl _), Nat.sub_self] at hx
            have e3 : x = (w, some (e.1, v)) := (Option.some.inj hx).symm
            subst e3
            show WtB _ w
            rw [hnx.1]
            have z := nxt_b (T := T) (o := o) (ch := ch) (kd := kd) (v := v) (B.bd i e hi) (B.ok e hmem).we
            exact ⟨Int.le_trans z.1 (by omega), fun q hq => Int.le_trans (z.2 q hq) (by omega)⟩
        · rw [hb] at z
          have e3 : w = b := Option.some.inj z
          subst e3
          unfold keys
          rw [List.map_append]
          exact List.mem_append_right _ (by simp)
/-- what a scan leaves -/
theorem scan_inv (t : TOk T) (v' : OOk T o) (vc : Vch T ch) (k : KOk kd) {i : Nat} {e : Wt × Option (Wt × Int)} : ∀ (vs : List Int) (ent : Ent), BInv T o ch kd ent → ent[i]? = some e → (∀ v ∈ vs, v ∈ spds kd e.1) →
    match scan T o ch kd e.1 vs ent with
    | .go ent' => BInv T o ch kd ent' ∧ (∃ l, ent' = ent ++ l) ∧ ∀ v ∈ vs, Closed T o ch kd ent' e.1 v
    | .stop v ent' => BInv T o ch kd ent' ∧ (∃ l, ent' = ent ++ l) ∧ v ∈ spds kd e.1 ∧ (led T o ch kd e.1 v).1 = true
    | .many => True
  | [], ent, B, hi, hv => ⟨B, ⟨[], (List.append_nil _).symm⟩, fun v h => by cases h⟩
  | v :: vs, ent, B, hi, hv => by
    unfold scan
    by_cases h1 : (led T o ch kd e.1 v).1 = true
    · rw [if_pos h1]
      exact ⟨B, ⟨[], (List.append_nil _).symm⟩, hv v (List.mem_cons_self ..), h1⟩
    · rw [if_neg h1]
      have h1' : (led T o ch kd e.1 v).1 = false := by simpa using h1
      cases hc : come ent (led T o ch kd e.1 v).2 e.1 v with
      | none => exact trivial
      | some ent1 =>
        dsimp only
        obtain ⟨B1, ⟨l1, e1⟩, c1⟩ := come_inv t v' vc k B hi (hv v (List.mem_cons_self ..)) h1' hc
        have hi1 : ent1[i]? = some e := by
          rw [e1, List.getElem?_append_left (List.getElem?_eq_some_iff.mp hi).1]; exact hi
        have ih := scan_inv t v' vc k vs ent1 B1 hi1 fun u hu => hv u (List.mem_cons_of_mem _ hu)
        cases hs : scan T o ch kd e.1 vs ent1 with
        | go ent2 =>
          rw [hs] at ih
          obtain ⟨B2, ⟨l2, e2⟩, c2⟩ := ih
          refine ⟨B2, ⟨l1 ++ l2, by rw [e2, e1, List.append_assoc]⟩, fun u hu => ?_⟩
          rcases List.mem_cons.mp hu with z | z
          · rw [z, e2]; exact c1.app
          · exact c2 u z
        | stop u ent2 =>
          rw [hs] at ih
          obtain ⟨B2, ⟨l2, e2⟩, c2⟩ := ih
          exact ⟨B2, ⟨l1 ++ l2, by rw [e2, e1, List.append_assoc]⟩, c2⟩
        | many => exact trivial
/-- what the search tells -/
def Told (T : Tk) (o : Op) (ch : Ch) (kd : Kd) : Out → Prop
  | .many => True
  | .stalls road => ∃ (ent : Ent) (i : Nat) (e : Wt × Option (Wt × Int)) (v : Int), BInv T o ch kd ent ∧ ent[i]? = some e ∧ v ∈ spds kd e.1 ∧ (led T o ch kd e.1 v).1 = true ∧ road = roadTo ent e.1 v
  | .never ws => ∃ ent : Ent, BInv T o ch kd ent ∧ ws = keys ent ∧ ∀ e ∈ ent, ∀ v ∈ spds kd e.1, Closed T o ch kd ent e.1 v
theorem bfs_told (t : TOk T) (v' : OOk T o) (vc : Vch T ch) (k : KOk kd) : ∀ (f i : Nat) (ent : Ent), BInv T o ch kd ent → (∀ j e, j < i → ent[j]? = some e → ∀ v ∈ spds kd e.1, Closed T o ch kd ent e.1 v) → Told T o ch kd (bfs T o ch kd f i ent)
  | 0, _, _, _, _ => trivial
  | f + 1, i, ent, B, D => by
    unfold bfs
    cases hi : ent[i]? with
    | none =>
      refine ⟨ent, B, rfl, fun e he v hv => ?_⟩
      obtain ⟨j, hj⟩ := List.mem_iff_getElem?.mp he
      have h1 := (List.getElem?_eq_some_iff.mp hj).1
      have h2 := List.getElem?_eq_none_iff.mp hi
      exact D j e (by omega) hj v hv
    | some e =>
      dsimp only
      have s := scan_inv t v' vc k (spds kd e.1) ent B hi fun _ h => h
      cases hs : scan T o ch kd e.1 (spds kd e.1) ent with
      | go ent' =>
        rw [hs] at s
        obtain ⟨B1, ⟨l, e1⟩, c⟩ := s
        refine bfs_told t v' vc k f (i + 1) ent' B1 fun j x hj hx v hv => ?_
        have hil := (List.getElem?_eq_some_iff.mp hi).1
        rw [e1, List.getElem?_append_left (by omega)] at hx
        by_cases hji : j = i
        · subst hji
          rw [hi] at hx
          have e2 := Option.some.inj hx
          subst e2
          exact c v hv
        · rw [e1]
          exact (D j x (by omega) hx v hv).app
      | stop v ent' =>
        rw [hs] at s
        obtain ⟨B1, ⟨l, e1⟩, hv, c⟩ := s
        exact ⟨ent', i, e, v, B1, by rw [e1, List.getElem?_append_left (List.getElem?_eq_some_iff.mp hi).1]; exact hi, hv, c, rfl⟩
      | many => exact trivial
theorem search_told (t : TOk T) (v' : OOk T o) (vc : Vch T ch) (k : KOk kd) : Told T o ch kd (search T o ch kd) :=
  bfs_told t v' vc k 151 0 _ (binv0 t v' vc k) fun j _ h => absurd h (Nat.not_lt_zero j)
end
end RP
set_option maxHeartbeats 200000
namespace RP
/-! ### roads that the search tells -/
section
variable {T : Tk} {o : Op} {ch : Ch} {kd : Kd}
inductive Path (T : Tk) (o : Op) (ch : Ch) (kd : Kd) : List Int → Wt → Prop
  | nil : Path T o ch kd [] (wt0 o ch kd)
  | snoc {us : List Int} {a b : Wt} {v : Int} : Path T o ch kd us a → v ∈ spds kd a → led T o ch kd a v = (false, some b) → Path T o ch kd (us ++ [v]) b
theorem BInv.way {ent : Ent} (B : BInv T o ch kd ent) {i : Nat} {e : Wt × Option (Wt × Int)} (h : ent[i]? = some e) : wayOf ent e.1 = e.2 := by
  unfold wayOf
  have nd := B.nd
  unfold keys at nd
  clear B
  induction ent generalizing i with
  | nil => cases h
  | cons x l ih =>
    rw [List.map_cons, List.nodup_cons] at nd
    rw [List.find?_cons]
    cases i with
    | zero =>
      have e2 : x = e := Option.some.inj h
      subst e2
      simp
    | succ i =>
      have h : l[i]? = some e := h
      have ne : ¬ x.1 = e.1 := fun z => nd.1 (by rw [z]; exact List.mem_map_of_mem (List.mem_of_getElem? h))
      rw [decide_eq_false ne]
      exact ih h nd.2
theorem backs_path {ent : Ent} (B : BInv T o ch kd ent) : ∀ (f i : Nat) (e : Wt × Option (Wt × Int)), ent[i]? = some e → i ≤ f → Path T o ch kd (backs ent f e.1).reverse e.1
  | 0, i, e, h, hi => by
    have hi0 : i = 0 := by omega
    subst hi0
    rw [B.e0] at h
    have e2 := Option.some.inj h
    subst e2
    exact .nil
  | f + 1, i, e, h, hi => by
    have hw := B.way h
    unfold backs
    rw [hw]
    cases i with
    | zero =>
      rw [B.e0] at h
      have e2 := Option.some.inj h
      subst e2
      exact .nil
    | succ i =>
      obtain ⟨a, v, j, ea, p1, p2, p3, p4, p5, p6⟩ := B.par (i + 1) e h (Nat.succ_pos i)
      rw [p1]
      dsimp only
      rw [List.reverse_cons]
      have ih := backs_path B f j ea p3 (by omega)
      rw [p4] at ih
      exact .snoc ih p5 p6
/-- the watches along a path -/
theorem Path.along {us : List Int} {w : Wt} (p : Path T o ch kd us w) : ∃ ws : Nat → Wt, ws 0 = wt0 o ch kd ∧ ws us.length = w ∧ ∀ (i : Nat) (v : Int), us[i]? = some v → v ∈ spds kd (ws i) ∧ led T o ch kd (ws i) v = (false, some (ws (i + 1))) := by
  induction p with
  | nil => exact ⟨fun _ => wt0 o ch kd, rfl, rfl, fun i v h => by cases h⟩
  | @snoc us a b v p hv hl ih =>
    obtain ⟨ws, h0, h1, h2⟩ := ih
    refine ⟨fun i => if i ≤ us.length then ws i else b, by dsimp only; rw [if_pos (Nat.zero_le _)]; exact h0, ?_, fun i u hu => ?_⟩
    · have : ¬ (us ++ [v]).length ≤ us.length := by
        rw [List.length_append]
        show ¬ us.length + 1 ≤ us.length
        omega
      dsimp only
      rw [if_neg this]
    · dsimp only
      by_cases hi : i < us.length
      · rw [List.getElem?_append_left hi] at hu
        rw [if_pos (Nat.le_of_lt hi), if_pos (show i + 1 ≤ us.length from hi)]
        exact h2 i u hu
      · have hi2 : i = us.length := by
          have := (List.getElem?_eq_some_iff.mp hu).1
          rw [List.length_append] at this
          have : ([v] : List Int).length = 1 := rfl
          omega
        subst hi2
        rw [List.getElem?_append_right (Nat.le_refl _), Nat.sub_self] at hu
        have e : v = u := Option.some.inj hu
        subst e
        rw [if_pos (Nat.le_refl _), if_neg (by omega), h1]
        exact ⟨hv, hl⟩
/-- at most so many slow ones in any window -/
def Wn (m : Int) (wide : Nat) (l : List Int) : Prop := ∀ k, ((l.drop k).take wide).sum ≤ m
theorem take_sum_le {l : List Int} (h : ∀ x ∈ l, x = 0 ∨ x = 1) : ∀ n, (l.take n).sum ≤ l.sum := fun n => by
  have e : l.sum = (l.take n).sum + (l.drop n).sum := by rw [← sum_app, List.take_append_drop]
  have := sum_nn (l := l.drop n) fun x hx => h x (List.mem_of_mem_drop hx)
  omega
theorem Wn.snoc {m : Int} {wide : Nat} {l : List Int} {b : Int} (h : Wn m wide l) (m0 : 0 ≤ m) (w1 : 1 ≤ wide) (bl : ∀ x ∈ l, x = 0 ∨ x = 1) (hb : b = 0 ∨ b = 1)
    (hp : ((List.replicate (wide - 1) 0 ++ l).drop l.length).sum + b ≤ m) : Wn m wide (l ++ [b]) := by
  intro k
  by_cases hk : k + wide ≤ l.length
  · rw [List.drop_append_of_le_length (by omega), List.take_append_of_le_length (by rw [List.length_drop]; omega)]
    exact h k
  · by_cases hk2 : k ≤ l.length
    · rw [List.drop_append_of_le_length hk2, List.take_of_length_le (by rw [List.length_append, List.length_drop]; show l.length - k + 1 ≤ wide; omega), sum_app, List.sum_singleton]
      -- the last ones of l stand in the last wide - 1
      have e : ∃ pre : List Int, (List.replicate (wide - 1) 0 ++ l).drop l.length = pre ++ l.drop k ∧ ∀ x ∈ pre, x = 0 ∨ x = 1 := by
        refine ⟨((List.replicate (wide - 1) 0 ++ l).drop l.length).take (wide - 1 - (l.length - k)), ?_, fun x hx => ?_⟩
        · have e2 : (List.replicate (wide - 1) (0 : Int) ++ l).drop (l.length + (wide - 1 - (l.length - k))) = l.drop k := by
            have e3 : l.length + (wide - 1 - (l.length - k)) = (List.replicate (wide - 1) (0 : Int)).length + k := by
              rw [List.length_replicate]; omega
            rw [e3, List.drop_append]
            simp
          rw [← e2, ← List.drop_drop, List.take_append_drop]
        · have hx2 := List.mem_of_mem_drop (List.mem_of_mem_take hx)
          rcases List.mem_append.mp hx2 with z | z
          · exact .inl (List.eq_of_mem_replicate z)
          · exact bl x z
      obtain ⟨pre, e1, e2⟩ := e
      rw [e1, sum_app] at hp
      have := sum_nn e2
      omega
    · rw [List.drop_eq_nil_of_le (by rw [List.length_append]; show l.length + 1 ≤ k; omega), List.take_nil]
      exact m0
theorem Path.past {us : List Int} {w : Wt} (p : Path T o ch kd us w) (k : KOk kd) : w.pa = (List.replicate (kd.wide - 1) 0 ++ us.map (bit kd)).drop us.length ∧ w.pa.sum ≤ kd.many ∧ Wn kd.many kd.wide (us.map (bit kd)) ∧ ∀ v ∈ us, v = kd.slow ∨ v = kd.fast := by
  have m0 := k.m0
  have w1 : 1 ≤ kd.wide := by have := k.mw; omega
  have bits : ∀ l : List Int, ∀ x ∈ l.map (bit kd), x = 0 ∨ x = 1 := fun l x hx => by
    obtain ⟨v, _, rfl⟩ := List.mem_map.mp hx
    exact bit01 v
  have sf : ∀ {a : Wt} {v : Int}, v ∈ spds kd a → v = kd.slow ∨ v = kd.fast := fun {a v} hv => by
    unfold spds at hv
    split at hv
    · simpa using hv
    · exact .inr (by simpa using hv)
  induction p with
  | nil =>
    refine ⟨?_, ?_, fun k => by simpa using m0, fun v h => by cases h⟩
    · simp [wt0]
    · show (List.replicate (kd.wide - 1) (0 : Int)).sum ≤ _
      rw [sum_rep0]; exact m0
  | @snoc us a b v p hv hl ih =>
    obtain ⟨h1, h2, h3, h4⟩ := ih
    have hb : b.pa = (a.pa ++ [bit kd v]).drop 1 := by
      have e : (led T o ch kd a v).2 = some b := by rw [hl]
      have e : (if over T (beat T o a.s v) then none else some (nxt T o ch kd a v)) = some b := e
      split at e
      · cases e
      · rw [← Option.some.inj e] <;> rfl
    have hpa : ∀ x ∈ a.pa ++ [bit kd v], x = 0 ∨ x = 1 := fun x hx => by
      rcases List.mem_append.mp hx with hx | hx
      · rw [h1] at hx
        rcases List.mem_append.mp (List.mem_of_mem_drop hx) with z | z
        · exact .inl (List.eq_of_mem_replicate z)
        · exact bits us x z
      · have e : x = bit kd v := by simpa using hx
        rw [e]; exact bit01 v
    have hr := spds_room k h2 hv
    refine ⟨?_, ?_, ?_, fun u hu => ?_⟩
    · rw [hb, h1, List.map_append, List.length_append, ← List.append_assoc]
      show ((List.replicate (kd.wide - 1) 0 ++ us.map (bit kd)).drop us.length ++ [bit kd v]).drop 1 = ((List.replicate (kd.wide - 1) 0 ++ us.map (bit kd)) ++ [bit kd v]).drop (us.length + 1)
      rw [← List.drop_append_of_le_length (by rw [List.length_append, List.length_map]; omega), List.drop_drop]
    · rw [hb]
      have := drop1_sum hpa
      rw [sum_app, List.sum_singleton] at this
      omega
    · rw [List.map_append]
      have e : (us.map (bit kd)).length = us.length := List.length_map ..
      exact h3.snoc m0 w1 (bits us) (bit01 v) (by rw [e, ← h1]; exact hr)
    · rcases List.mem_append.mp hu with z | z
      · exact h4 u z
      · have e : u = v := by simpa using z
        rw [e]; exact sf hv
/-- a road that the search tells: it keeps to the kind; by no beat but the last one it stalls -/
structure RoadOk (T : Tk) (o : Op) (ch : Ch) (kd : Kd) (road : List Int) : Prop where
  sf : ∀ v ∈ road, v = kd.slow ∨ v = kd.fast
  wn : Wn kd.many kd.wide (road.map (bit kd))
  ws : ∃ (us : List Int) (v : Int) (ws : Nat → Wt), road = us ++ [v] ∧ ws 0 = wt0 o ch kd ∧ (∀ (i : Nat) (u : Int), us[i]? = some u → u ∈ spds kd (ws i) ∧ led T o ch kd (ws i) u = (false, some (ws (i + 1)))) ∧ v ∈ spds kd (ws us.length) ∧ (led T o ch kd (ws us.length) v).1 = true
  len : road.length ≤ 151
theorem backs_len (ent : Ent) : ∀ f w, (backs ent f w).length ≤ f
  | 0, _ => Nat.le_refl _
  | f + 1, w => by
    unfold backs
    cases wayOf ent w with
    | none => exact Nat.zero_le _
    | some q => exact Nat.succ_le_succ (backs_len ent f q.1)
theorem road_ok (k : KOk kd) {ent : Ent} (B : BInv T o ch kd ent) {i : Nat} {e : Wt × Option (Wt × Int)} (h : ent[i]? = some e) {v : Int} (hv : v ∈ spds kd e.1) (hs : (led T o ch kd e.1 v).1 = true) : RoadOk T o ch kd (roadTo ent e.1 v) := by
  have m0 := k.m0
  have w1 : 1 ≤ kd.wide := by have := k.mw; omega
  have hi := (List.getElem?_eq_some_iff.mp h).1
  have p := backs_path B ent.length i e h (Nat.le_of_lt hi)
  have hl := backs_len ent ent.length e.1
  have er : roadTo ent e.1 v = (backs ent ent.length e.1).reverse ++ [v] := by unfold roadTo; rw [List.reverse_cons]
  rw [er]
  generalize (backs ent ent.length e.1) = bs at p hl
  obtain ⟨q1, q2, q3, q4⟩ := p.past k
  obtain ⟨ws, h0, h1, h2⟩ := p.along
  have bits : ∀ x ∈ bs.reverse.map (bit kd), x = 0 ∨ x = 1 := fun x hx => by
    obtain ⟨v, _, rfl⟩ := List.mem_map.mp hx
    exact bit01 v
  refine ⟨fun u hu => ?_, ?_, ⟨bs.reverse, v, ws, rfl, h0, h2, by rw [h1]; exact hv, by rw [h1]; exact hs⟩, ?_⟩
  · rcases List.mem_append.mp hu with z | z
    · exact q4 u z
    · have e : u = v := by simpa using z
      rw [e]
      unfold spds at hv
      split at hv
      · simpa using hv
      · exact .inr (by simpa using hv)
  · rw [List.map_append]
    have e : (bs.reverse.map (bit kd)).length = bs.reverse.length := List.length_map ..
    exact q3.snoc m0 w1 bits (bit01 v) (by rw [e, ← q1]; exact spds_room k q2 hv)
  · rw [List.length_append, List.length_reverse]
    have := B.len
    show bs.length + 1 ≤ 151
    omega
end
end RP
set_option maxHeartbeats 4000000
namespace RP
open PySem PySem.Spec PyProof.Rows L2
/-! ### a, b, *c = a tuple -/
theorem star_tup {prog : Program} {w : World} {A : Around} {E : Value → Shared → Prop} {s : Shared} {l : Addr} {items : Array Value} {n i : Nat} {Q : List Value → Shared → Prop} (hl : IsTup s.heap l items) (hh : A.handled = none) (hi : i < n) (hn : n ≤ items.size + 1) (hz : items.size ≤ 16384)
    (h : ∀ (h' : Heap) (tk : Nat), (∀ b o, s.heap.get? b = some o → h'.get? b = some o) →
      Q (items.toList.take i ++ [.ref h'.objs.size] ++ (items.toList.drop i).drop (items.size + 1 - n)) { s with heap := h'.push { cls := .type "list", data := .seq ((items.toList.drop i).take (items.size + 1 - n)).toArray }, toks := tk }) :
    wpAny (model prog w) A (unpackItems (.ref l) n (some i)) Q E s := by
  have hlt : l ≠ s.heap.objs.size := by obtain ⟨o, ho, _⟩ := hl; exact Nat.ne_of_lt (Heap.lt_size ho)
  unfold unpackItems
  refine wpAny_bind ?_
  unfold notIterableAtAll
  refine wpAny_bind (wpAny_specialOf hl.typeIs slot_tuple_iter.lookup ?_)
  refine wpAny_pure ?_
  simp only [Bool.false_eq_true, if_false]
  refine wpAny_bind (wpAny_holding (iter_tuple hl ?_))
  refine wpAny_bind (wpAny_holding (draw_tuple hlt i 0 _ _ ⟨_, Heap.get?_push_size _ rfl, rfl, rfl⟩ (hl.push _) (by omega) fun h1 hit1 hs1 => ?_))
  have hl1 : IsTup h1 l items := (hl.push _).extBut hs1.extBut hlt
  rw [Nat.zero_add] at hit1
  obtain ⟨oi, hoi, _⟩ := id hit1
  obtain ⟨ol, hol, _⟩ := id hl1
  rw [List.drop_zero]
  have hfl : (items.toList.take i).length = i := by rw [List.length_take, Array.length_toList]; omega
  rw [if_neg (show ¬ ((items.toList.take i).length < i) by rw [hfl]; omega)]
  refine wpAny_bind (wpAny_holding (PySem.W.kun_collect (s := { s with heap := h1 }) (T := "tuple_iterator") (.inr (.inr (.inr rfl))) (Walks.tuple (A := A.in1) hh s.heap.objs.size l hlt items) (fun j u st => st.1.typeIs) (k := i) (by omega) ⟨hit1, hl1⟩ (Heap.lt_size hoi) (Heap.lt_size hol) (fun h2 tk hk => ?_) (by rw [sizeLine_eq]; omega)))
  have hrl : (items.toList.drop i).length = items.size - i := by rw [List.length_drop, Array.length_toList]
  have hmid : (items.toList.drop i).length - (n - 1 - i) = items.size + 1 - n := by rw [hrl]; omega
  show wpAny _ _ (if (items.toList.drop i).length < n - 1 - i then _ else _) _ _ _
  rw [if_neg (by rw [hrl]; omega)]
  show wpAny _ _ (newList ((items.toList.drop i).take ((items.toList.drop i).length - (n - 1 - i))) >>= fun d => pure (items.toList.take i ++ [d] ++ (items.toList.drop i).drop ((items.toList.drop i).length - (n - 1 - i)))) _ _ _
  rw [hmid]
  have he : ∀ b o, s.heap.get? b = some o → h2.get? b = some o := fun b o e => hk b o (Nat.ne_of_lt (Heap.lt_size e)) (hs1.extBut b o (Nat.ne_of_lt (Heap.lt_size e)) (Heap.get?_push_of_some _ e))
  refine wpAny_bind (wpAny_newList (s := { s with heap := h2, toks := tk }) (wpAny_pure (h h2 tk he)) (by rw [List.length_take, hrl, sizeLine_eq]; omega))
/-- first ones, a new list of those between, last ones -/
def gStar (K : PySem.W.Frag) (n i : Nat) (t : TGs) : TG := fun v σ H Q => ∃ (a : Addr) (xs first mids lasts : List V), v = .ref a ∧ SqT K H a xs ∧ xs = first ++ mids ++ lasts ∧ first.length = i ∧ i + 1 + lasts.length = n ∧ xs.length ≤ 16384 ∧
  ∀ D, H D = none → t (first ++ [.ref D] ++ lasts) σ (upd H D (.lst mids)) Q
section
variable {X : Cx} {pos p : Pos} {es : List Expr} {k : Nat}
theorem pgs_star {e : Expr} {t : TG} {u : TGs} (h1 : PG X e t) (h2 : PGs X es u)
    (hs : (assignEach (.Starred e p :: es) X.env).map (·.2) = assign e X.env :: (assignEach es X.env).map (·.2) := by rfl) : PGs X (.Starred e p :: es) (gCons t u) := by
  refine ⟨fun pins s σ H vs us Q I r h => ?_⟩
  obtain ⟨v, vr, e1, h⟩ := h
  subst e1
  cases r with
  | cons r rr =>
    rw [hs]
    refine assignInOrder_cons (thn (h1.run pins s σ H _ _ _ I r h) fun _ s1 ⟨σ1, H1, I1, q1⟩ => ?_)
    exact h2.run pins s1 σ1 H1 _ _ Q I1 rr q1
theorem pg_star {t : TGs} {n i : Nat} (hc : X.calm = true) (h : PGs X es t) (hn : (assignEach es X.env).length = n := by rfl) (hst : (assignEach es X.env).findIdx? (·.1) = some i := by rfl) (hi : i < n := by decide) :
    PG X (.Tuple es k pos) (gStar X.K n i t) := by
  refine ⟨fun pins s σ H v u Q I r hw => ?_⟩
  obtain ⟨a, xs, first, mids, lasts, e1, hq, ex, hf, hl, hz, hw⟩ := hw
  subst e1
  cases r
  obtain ⟨its, rv, ht, hz2⟩ := I.tuple hq
  have hlen : its.toArray.size = xs.length := by rw [List.size_toArray, ← rv.length]
  have lens : xs.length = i + mids.length + lasts.length := by rw [ex, List.length_append, List.length_append, hf]
  rw [assign_Tuple]
  refine wpAny_bind (wpAny_standAt ?_)
  unfold unpack
  rw [hn, hst]
  refine wpAny_bind (wpAny_holding (star_tup ht (I.ok.hd hc) hi (by rw [hlen]; omega) (by rw [hlen]; exact hz) fun h' tk hk => ?_))
  rw [hlen]
  have I1 : Inv X pins σ H { s with heap := h', toks := tk } := I.kept hk
  have e2 : its.toArray.toList = its := by simp
  rw [e2]
  have rf : Vals first (its.take i) := by
    have := rv.take i
    rw [ex, List.append_assoc, List.take_left' hf] at this
    exact this
  have rm : Vals mids ((its.drop i).take (xs.length + 1 - n)) := by
    have := (rv.drop i).take (xs.length + 1 - n)
    have e3 : (xs.drop i).take (xs.length + 1 - n) = mids := by
      have e4 : xs.length + 1 - n = mids.length := by omega
      rw [e4, ex, List.append_assoc, List.drop_left' hf, List.take_left' rfl]
    rw [e3] at this
    exact this
  have rl : Vals lasts ((its.drop i).drop (xs.length + 1 - n)) := by
    have := (rv.drop i).drop (xs.length + 1 - n)
    have e3 : (xs.drop i).drop (xs.length + 1 - n) = lasts := by
      have e4 : xs.length + 1 - n = mids.length := by omega
      rw [e4, ex, List.append_assoc, List.drop_left' hf, List.drop_left' rfl]
    rw [e3] at this
    exact this
  have hD : H h'.objs.size = none := I1.hok.fresh (Nat.le_refl _)
  have hmz : mids.length ≤ sizeLine := by rw [sizeLine_eq]; omega
  have I2 : Inv X pins σ (upd H h'.objs.size (.lst mids)) { s with heap := h'.push { cls := .type "list", data := .seq ((its.drop i).take (xs.length + 1 - n)).toArray }, toks := tk } :=
    I1.laid (t' := tk) (fun b o e => Heap.get?_push_of_some _ e) (Nat.le_refl _) ⟨hmz, _, 0, rm, Heap.get?_push_size _ rfl⟩
  exact h.run pins _ σ _ _ _ Q I2 ((rf.append (.cons (show RelV (V.ref h'.objs.size) (Value.ref h'.objs.size) from rfl) .nil)).append rl) (hw _ hD)
/-! ### o.f as a target -/
def gFld (K : PySem.W.Frag) (to : TE) (f : Str) : TG := fun v σ H Q => to σ H fun x H1 => ∃ (a C dx : Addr) (fs : List (Str × V)), x = .ref a ∧ H1 a = some (.ins C dx fs) ∧ Cls K C ∧ NoAttr K C f ∧ fs.length < 1000 ∧ Q σ (upd H1 a (.ins C dx (putF f v fs)))
theorem pg_fld {o : Expr} {to : TE} {f : Str} (ho : PE X o to) : PG X (.Attribute o f pos) (gFld X.K to f) := by
  refine ⟨fun pins s σ H v u Q I r hw => ?_⟩
  rw [PySem.assign_Attribute]
  refine wpAny_bind (wpAny_holding (thn (ho.run pins s σ H _ I hw) fun ov s1 ⟨x, H1, I1, rx, a, C, dx, fs, ex, ea, c, n, l, q⟩ => ?_))
  subst ex
  obtain rfl : ov = Value.ref a := rx
  refine wpAny_bind (wpAny_standAt (wpAny_bind (wpAny_holding (setattr_ok I1 ea c n l r fun s2 I2 => ?_))))
  exact wpAny_release ⟨σ, _, I2, q⟩
end
end RP
set_option maxHeartbeats 4000000
namespace RP
open PySem PySem.Spec PyProof.Rows L2
/-! ### enumerate of a tuple -/
theorem meets_enumT (l : Addr) (items : Array Value) : Meets (Builtin.«enumerate.__new__» ⟨[.type "enumerate", .ref l], []⟩) (fun _ R s => s.heap.IsTuple l items ∧
      R (.ok (.ret (.ref (s.heap.push { cls := .type "tuple_iterator", data := .fields #[.ref l, .int 0 0] }).objs.size)))
        { s with heap := (s.heap.push { cls := .type "tuple_iterator", data := .fields #[.ref l, .int 0 0] }).push { cls := .type "enumerate", data := .fields #[.none, .bool false, .ref s.heap.objs.size, rawInt 0, .none, .none] } }) :=
  .of_wp fun prog w A R s h => by
    obtain ⟨hp, g, d, tk, os⟩ := s
    obtain ⟨hL, h⟩ := h
    have hsub := sub_enumerate
    wp_walk
    refine wpAny_stack_any fun st => wpAny_pure ?_
    split
    · rename_i c _ _ _ _ _
      cases (c == Value.type "enumerate")
      · wp_walk using wpAny_pyIter_tuple hL
        exact ⟨_, rfl, h⟩
      · wp_walk using wpAny_pyIter_tuple hL
        exact ⟨_, rfl, h⟩
    · wp_walk using wpAny_pyIter_tuple hL
      exact ⟨_, rfl, h⟩
theorem call_enumT {prog : Program} {w : World} {A : Around} {E : Value → Shared → Prop} {s : Shared} {l : Addr} {items : Array Value} {Q : Value → Shared → Prop} (hL : s.heap.IsTuple l items)
    (h : ∀ h', IsEnum h' (s.heap.objs.size + 1) s.heap.objs.size 0 .none → h'.IsTupleIter s.heap.objs.size l 0 → h'.objs.size = s.heap.objs.size + 2 →
      (∀ b o, s.heap.get? b = some o → h'.get? b = some o) → Q (.ref (s.heap.objs.size + 1)) { s with heap := h' }) :
    wpAny (model prog w) A (call (.type "enumerate") [.ref l]) Q E s := by
  refine callType_new F.called_enumerate (by decide) (F.typeCall_enumerate_1 _) (F.newCall_enumerate_1 _) (fun obj => F.args_object_init_2 obj _) F.entry_enumerate_new
    (meets_enumT l items) ⟨hL, ?_⟩
  have hz : (s.heap.push { cls := .type "tuple_iterator", data := .fields #[.ref l, .int 0 0] }).objs.size = s.heap.objs.size + 1 := Heap.size_push ..
  show _ ∧ _
  rw [hz]
  have he : IsEnum ((s.heap.push { cls := .type "tuple_iterator", data := .fields #[.ref l, .int 0 0] }).push
      { cls := .type "enumerate", data := .fields #[.none, .bool false, .ref s.heap.objs.size, rawInt 0, .none, .none] }) (s.heap.objs.size + 1) s.heap.objs.size 0 .none := by
    have := Heap.get?_push_size (s.heap.push { cls := .type "tuple_iterator", data := .fields #[.ref l, .int 0 0] })
      (o := { cls := .type "enumerate", data := .fields #[.none, .bool false, .ref s.heap.objs.size, rawInt 0, .none, .none] }) rfl
    rw [hz] at this; exact this
  refine ⟨⟨_, he, rfl⟩, h _ he ⟨_, Heap.get?_push_of_some _ (Heap.get?_push_size _ rfl), rfl, rfl⟩ (by rw [Heap.size_push, hz]) fun b o x => Heap.get?_push_of_some _ (Heap.get?_push_of_some _ x)⟩
/-- the tuple at a, each item in a new pair -/
def IteT (K : PySem.W.Frag) (a : Addr) : It :=
  ⟨fun i H => ∃ (xs : List V) (x : V), SqT K H a xs ∧ xs[i]? = some x, fun i H v H' => ∃ T x, v = .ref T ∧ H T = none ∧ H' = upd H T (.tup [.int (i : Nat), x]) ∧ ∀ xs, SqT K H a xs → xs[i]? = some x, fun i H => ∃ xs : List V, SqT K H a xs ∧ xs.length = i⟩
theorem turn_enumT {P : Program} {w : World} {K : PySem.W.Frag} {elts : List Expr} {kk : Nat} {tpos : Pos} (a e it : Addr) :
    Turn P w K (.Tuple elts kk tpos) (IteT K a) [e, it] e (fun i h => (∃ old, IsEnum h e it ((i : Nat) : Int) old) ∧ h.IsTupleIter it a i ∧ e ≠ it ∧ a ≠ it ∧ a ≠ e) where
  mem := by simp
  obj := fun i h st b hb => by
    obtain ⟨⟨old, he⟩, ⟨o, ho, hc, hd⟩, _⟩ := st
    have e' : b = e ∨ b = it := by simpa using hb
    rcases e' with z | z
    · rw [z]; exact ⟨_, he, fun v q => nomatch q⟩
    · rw [z]; exact ⟨o, ho, fun v q => by rw [hd] at q; cases q⟩
  keep := fun i h h' st k => let ⟨⟨old, he⟩, hi, hne⟩ := st; ⟨⟨old, k e (by simp) _ he⟩, hi.at fun o q => k it (by simp) o q, hne⟩
  item := by
    intro X hP hw hK hc i pins s σ H E I hf st hg
    subst hP hw hK
    obtain ⟨⟨old, he⟩, hit, hne, hai, hae⟩ := st
    obtain ⟨xs, x, hq, hx⟩ := hg
    obtain ⟨its, rv, p, hz⟩ := I.tuple hq
    obtain ⟨u, hu, ru⟩ := rv.get hx
    have hel : e < s.heap.objs.size := Heap.lt_size he
    have hil : it < s.heap.objs.size := by obtain ⟨_, q, _⟩ := hit; exact Heap.lt_size q
    have hlt : i < its.toArray.size := by
      rw [List.size_toArray, ← rv.length]
      exact (List.getElem?_eq_some_iff.mp hx).1
    refine wpAny_pyNext_enum_itemD (Draws.tuple (A := X.A.in1) (I.ok.hd hc) it a hai its.toArray) he ⟨hit, p⟩ hlt hne (by simp [hne, Ne.symm hae]) fun y h' tk hy ho st' hT hsz hk => ?_
    have hyu : y = u := by
      have e1 : its.toArray[i]? = some u := by simpa using hu
      rw [e1] at hy
      exact (Option.some.inj hy).symm
    subst hyu
    refine ⟨_, rfl, wpAny_letOwnedTupleGo_enum (s := { s with heap := h', toks := tk + 1 }) ho fun h'' he' sb => ?_⟩
    have hT2 : h''.get? s.heap.objs.size = some { cls := .type "tuple", data := .seq #[.int i tk, y] } := (sb.2 _ (Nat.ne_of_gt hel)).trans hT
    have new : ObjOk X.prog X.w (upd H s.heap.objs.size (.tup [.int (i : Nat), x])) h'' s.heap.objs.size (.tup [.int (i : Nat), x]) :=
      ⟨by show 2 ≤ sizeLine; decide, [.int i tk, y], .cons ⟨_, rfl⟩ (.cons ru .nil), ⟨_, hT2, rfl, _, rfl⟩⟩
    have I1 : Inv X pins σ (upd H s.heap.objs.size (.tup [.int (i : Nat), x])) { s with heap := h'', toks := tk + 1 } :=
      I.turnedNew (ch := [e, it]) (fun b ob hb q => (sb.2 b (fun z => hb (by simp [z]))).trans (hk b ob (fun z => hb (by simp [z])) (fun z => hb (by simp [z])) q)) hf (Nat.le_refl _) new
    refine ⟨.ref s.heap.objs.size, _, I1, rfl, ⟨_, x, rfl, I.hok.fresh (Nat.le_refl _), rfl, fun ys hy => by rw [I.tuple_inj hy hq]; exact hx⟩, ⟨⟨y, ?_⟩, st'.1.at fun o q => (sb.2 it (Ne.symm hne)).trans q, hne, hai, hae⟩, fun b hb => ?_⟩
    · have e1 : ((i + 1 : Nat) : Int) = (i : Int) + 1 := by omega
      rw [e1]; exact he'
    · have hb' : b < s.heap.objs.size := by
        have e' : b = e ∨ b = it := by simpa using hb
        rcases e' with z | z
        · rw [z]; exact hel
        · rw [z]; exact hil
      rw [upd_ne (Nat.ne_of_lt hb')]
      exact (hf b hb).1
  done := by
    intro X hP hw hK hc i pins s σ H E I hf st hg
    subst hP hw hK
    obtain ⟨⟨old, he⟩, hit, hne, hai, hae⟩ := st
    obtain ⟨xs, hq, hx⟩ := hg
    obtain ⟨its, rv, p, hz⟩ := I.tuple hq
    obtain ⟨f0, f1, f2, f3, f4, f5⟩ := hf it (by simp)
    have hl : its.toArray.size = i := by rw [List.size_toArray, ← rv.length]; exact hx
    subst hl
    exact wpAny_pyNext_enum_endD (Draws.tuple (A := X.A.in1) (I.ok.hd hc) it a hai its.toArray) he ⟨hit, p⟩ fun h' eb => ⟨rfl, I.turned (t' := s.toks) (fun b o hb q => eb b o hb q) f0 f1 f3 f4 f5⟩
  self := fun A i s Q E st h => let ⟨⟨_, he⟩, _⟩ := st; wpAny_pyIter_enum he h
def iEnumT (K : PySem.W.Frag) (ta : TA) : TI := fun σ H R => ta σ H fun vs H1 => ∃ a xs, vs = [.ref a] ∧ SqT K H1 a xs ∧ R (IteT K a) H1
theorem pi_enumT {X : Cx} {e : Expr} {ta : TA} {p pos tpos : Pos} {elts : List Expr} {kk : Nat} (hg : Gl X "enumerate") (hm : X.mg "enumerate" = none) (ha : PA X [e] ta) (hs : starEach [e] X.env = [(false, eval e X.env)] := by rfl) :
    PI X (.Tuple elts kk tpos) (.Call (.Name "enumerate" p) [e] [] pos) (iEnumT X.K ta) := by
  refine ⟨fun pins s σ H R I h => ?_⟩
  refine Call_ (ld_blt I hg hm boot_enumerate (PyProof.Rows.callWith_type1 (thn (ha.run pos pins s σ H _ I h) fun us s1 ⟨vs, H1, I1, r1, q1⟩ => ?_) hs rfl))
  obtain ⟨a, xs, ex, hq, q⟩ := q1
  subst ex
  cases r1 with
  | cons r rr =>
    cases rr
    cases r
    obtain ⟨its, rv, p', hz⟩ := I1.tuple hq
    have hal : a < s1.heap.objs.size := by obtain ⟨o, ho, _⟩ := p'; exact Heap.lt_size ho
    refine call_enumT (show s1.heap.IsTuple a its.toArray from p') fun h' he hit hsz hk => wpAny_pyIter_enum he ?_
    have I2 : Inv X pins σ H1 { s1 with heap := h' } := I1.kept (t' := s1.toks) hk
    refine ⟨s1.heap.objs.size + 1, [s1.heap.objs.size + 1, s1.heap.objs.size], _, _, H1, rfl, I2, turn_enumT a (s1.heap.objs.size + 1) s1.heap.objs.size, ⟨⟨.none, he⟩, hit, Nat.succ_ne_self _, Nat.ne_of_lt hal, Nat.ne_of_lt (Nat.lt_succ_of_lt hal)⟩, fun b hb => ?_, q⟩
    have e' : b = s1.heap.objs.size + 1 ∨ b = s1.heap.objs.size := by simpa using hb
    have hle : s1.heap.objs.size ≤ b := by
      rcases e' with z | z
      · rw [z]; exact Nat.le_add_right _ _
      · rw [z]; exact Nat.le_refl _
    exact I1.fpOk hle (I1.hok.fresh hle)
theorem walk_enumT {K : PySem.W.Frag} {a : Addr} {xs : List V} : Walk (IteT K a) xs.length (fun H => SqT K H a xs) (YPair (fun i => some (.int (i : Nat))) (fun i => xs[i]?)) := by
  refine ⟨fun i _ hi q => ⟨xs, xs[i], q, by simp [hi]⟩, fun _ q => ⟨xs, q, rfl⟩, fun i H v H' _ q y => ?_⟩
  obtain ⟨T, x, h1, h2, h3, h4⟩ := y
  exact ⟨T, .int (i : Nat), x, h1, h2, h3, rfl, h4 xs q⟩
/-! ### sum, max of a tuple of whole numbers -/
section
variable {prog : Program} {w : World} {A : Around} {E : Value → Shared → Prop} {s : Shared} {l : Addr} {its : List Value} {ns : List Int}
theorem iter_intT {xs : Array (Int × Tok)} {Q : Value → Shared → Prop} (hl : s.heap.IsTuple l (intItems xs))
    (h : ∀ s2 : Shared, s2 = { s with heap := s.heap.push { cls := .type "tuple_iterator", data := .fields #[.ref l, .int 0 0] } } →
      (s2.heap.IsTupleIter s.heap.objs.size l 0 ∧ s2.heap.IsTuple l (intItems xs)) → (∀ b ∈ [s.heap.objs.size, l], b < s2.heap.objs.size) → l ≠ s.heap.objs.size → Q (.ref s.heap.objs.size) s2) :
    wpAny (model prog w) A (pyIter (.ref l)) Q E s := by
  have hlt : l < s.heap.objs.size := by obtain ⟨_, e, _⟩ := hl; exact Heap.lt_size e
  refine wpAny_pyIter_tuple hl (h _ rfl ⟨⟨_, Heap.get?_push_size _ rfl, rfl, rfl⟩, hl.push _⟩ (fun b hb => ?_) (Nat.ne_of_lt hlt))
  show b < (s.heap.push _).objs.size
  rw [Heap.size_push]
  rcases List.mem_cons.mp hb with rfl | hb
  · exact Nat.lt_succ_self _
  · rcases List.mem_cons.mp hb with rfl | hb
    · exact Nat.lt_succ_of_lt hlt
    · cases hb
theorem old_keptT {h' : Heap} (hk : ∀ b o, b ∉ [s.heap.objs.size] → (s.heap.push { cls := .type "tuple_iterator", data := .fields #[.ref l, .int 0 0] }).get? b = some o → h'.get? b = some o) :
    ∀ b o, s.heap.get? b = some o → h'.get? b = some o := fun b o e => hk b o (fun hm => by
      rcases List.mem_cons.mp hm with e1 | hm
      · exact absurd (e1 ▸ Heap.lt_size e) (Nat.lt_irrefl _)
      · cases hm) (Heap.get?_push_of_some _ e)
theorem sum_rawT {Q : Value → Shared → Prop} (hh : A.handled = none) (hl : s.heap.IsTuple l its.toArray) (hi : IntsAre its ns)
    (h : ∀ h' tk t', (∀ b o, s.heap.get? b = some o → h'.get? b = some o) → Q (.int ns.sum t') { s with heap := h', toks := tk }) : wpAny (model prog w) A (call (.builtin "sum") [.ref l]) Q E s := by
  obtain ⟨xs, e⟩ := hi.allInts.items
  have hn : numsOf (intItems xs).toList = ns := by rw [← e]; exact hi.numsOf
  rw [nums_intItems] at hn
  rw [e] at hl
  refine call_sum_walkG (iter_intT hl fun s2 e st hfp hlI => ?_)
  subst e
  refine ⟨_, _, _, _, _, _, numAt xs, rfl, Walks.tuple (A := A.in1) hh _ l hlI (intItems xs), st, hfp, (fun _ _ => intItems_at), fun h' tk t' hk => ?_⟩
  have z := h h' tk t' (old_keptT hk)
  have z2 : preSum (numAt xs) (intItems xs).size = ns.sum := by
    rw [show (intItems xs).size = xs.size by simp [intItems], preSum_eq, List.take_of_length_le (by simp), hn]
  rw [z2]; exact z
theorem max_rawT {Q : Value → Shared → Prop} (hh : A.handled = none) (hl : s.heap.IsTuple l its.toArray) (hi : IntsAre its ns) (hne : 0 < ns.length)
    (h : ∀ h' tk M t', (∀ b o, s.heap.get? b = some o → h'.get? b = some o) → M ∈ ns → (∀ a, a ∈ ns → a ≤ M) → Q (.int M t') { s with heap := h', toks := tk }) : wpAny (model prog w) A (call (.builtin "max") [.ref l]) Q E s := by
  obtain ⟨xs, e⟩ := hi.allInts.items
  have hn : numsOf (intItems xs).toList = ns := by rw [← e]; exact hi.numsOf
  rw [nums_intItems] at hn
  subst hn
  rw [e] at hl
  have hsz : 0 < xs.size := by simpa using hne
  refine call_max_walk (iter_intT hl fun s2 e st hfp hlI => ?_)
  subst e
  refine ⟨_, _, _, _, _, _, _, rfl, Walks.tuple (A := A.in1) hh _ l hlI (intItems xs), st, hfp, by simpa [intItems] using hsz, CmpOf.ints_gt (numAt xs) (fun _ _ => intItems_at), fun v h' tk hP hk => ?_⟩
  have hv : (intItems xs)[argBest (fun i j => decide (numAt xs i > numAt xs j)) (xs.size - 1)]? = some v := by simpa [intItems] using hP
  obtain ⟨t, rfl⟩ := intItems_at hv
  obtain ⟨h1, h2⟩ := argBest_gt (numAt xs) (xs.size - 1)
  refine h h' tk _ t (old_keptT hk) ?_ fun a ha => ?_
  · rw [numAt_eq]; exact PySem.getD_mem (by rw [List.length_map, Array.length_toList]; omega)
  · obtain ⟨j, hj, rfl⟩ := mem_getD ha
    rw [List.length_map, Array.length_toList] at hj
    rw [← numAt_eq]; exact h2 j (by omega)
end
def rSumT (K : PySem.W.Frag) : List V → Hp → VK → Prop := fun vs H Q => ∃ (a : Addr) (ns : List Int), vs = [V.ref a] ∧ SqT K H a (ns.map V.int) ∧ Q (.int ns.sum) H
def rMaxT (K : PySem.W.Frag) : List V → Hp → VK → Prop := fun vs H Q => ∃ (a : Addr) (ns : List Int), vs = [V.ref a] ∧ SqT K H a (ns.map V.int) ∧ 0 < ns.length ∧ ∀ m, m ∈ ns → (∀ y, y ∈ ns → y ≤ m) → Q (.int m) H
section
variable {X : Cx}
theorem cr_sumT (hc : X.calm = true) : CallR X (.builtin "sum") (rSumT X.K) := by
  intro pins s σ H vs us Q I r h
  obtain ⟨a, ns, rfl, hs, q⟩ := h
  obtain ⟨its, rv, hl, _⟩ := I.tuple hs
  rw [Vals.ref1 r]
  exact sum_rawT (I.ok.hd hc) hl rv.ints fun h' tk t' hk => ⟨.int _, H, I.kept hk, ⟨_, rfl⟩, q⟩
theorem cr_maxT (hc : X.calm = true) : CallR X (.builtin "max") (rMaxT X.K) := by
  intro pins s σ H vs us Q I r h
  obtain ⟨a, ns, rfl, hs, hne, q⟩ := h
  obtain ⟨its, rv, hl, _⟩ := I.tuple hs
  rw [Vals.ref1 r]
  exact max_rawT (I.ok.hd hc) hl rv.ints hne fun h' tk m t' hk h1 h2 => ⟨.int _, H, I.kept hk, ⟨_, rfl⟩, q m h1 h2⟩
end
end RP
set_option maxHeartbeats 4000000
namespace RP
open PySem PySem.Spec PyProof.Rows L2
/-! ### len of an own instance, of a range -/
section
variable {X : Cx}
/-- the callee runs, one unit deeper -/
theorem run_in1 {pins : List (Addr × Obj)} {σ : L2.St} {H : Hp} {s : Shared} {CX : CXT} {k : Nat} {f : Addr} {fd : FuncData} {ps : List Str} {sp : Sp} {E : XK} {Q : VK} {us : List Value} {vs : List V} (F : FnOk X.prog X.w X.K X.mg X.base CX k f fd ps sp) (hr : Room (k + 1) X.A) (hb : Binds X.K fd ps []) (hx : Passes CX X E)
    (I : Inv X pins σ H s) (r : Vals vs us) (h : sp vs H Q E) : wpAny (model X.prog X.w) X.A.in1 (call (.ref f) us) (EP X pins σ Q) X.xe s := by
  have hl : us.length = ps.length := by rw [← r.length]; exact F.len _ _ _ _ h
  have e0 : Env0 X.prog X.w X.K X.mg X.base X.A.in1 X.stack s H := I.env0.in1
  refine wpAny_call (codeAny_mono (F.run X.A.in1 X.stack s H ⟨us, []⟩ us vs Q E hr.in1 e0 (by
    have z := hb s us I.kIn (by simpa using hl)
    simpa using z) r h) fun r s' hq => ?_)
  cases r with
  | error e => exact hx pins σ H s e s' I hq
  | ok fl =>
    cases fl with
    | ret w => exact I.after hq
    | next => exact False.elim hq
    | brk => exact False.elim hq
    | cont => exact False.elim hq
def rLenO (C : Addr) (sp : Sp) (E : XK) : List V → Hp → VK → Prop := fun vs H Q => ∃ (a dx : Addr) (fs : List (Str × V)), vs = [.ref a] ∧ H a = some (.ins C dx fs) ∧ sp [.ref a] H (fun v H' => ∃ n : Int, v = .int n ∧ (0 ≤ n ∧ n < 2 ^ 63) ∧ Q (.int n) H') E
theorem call_lenO {CX : CXT} {k : Nat} {C f : Addr} {fd : FuncData} {ps : List Str} {sp : Sp} {E : XK} (F : FnOk X.prog X.w X.K X.mg X.base CX k f fd ps sp) (m : Meth X.K C "__len__" f) (hr : Room (k + 1) X.A) (hb : Binds X.K fd ps []) (hx : Passes CX X E) :
    CallR X (.builtin "len") (rLenO C sp E) := by
  intro pins s σ H vs us Q I r h
  obtain ⟨a, dx, fs, rfl, ha, h⟩ := h
  have hu : us = [Value.ref a] := by
    cases r with
    | cons r rr =>
      cases rr
      cases r
      rfl
  subst hu
  obtain ⟨mA, J, _⟩ := ins_get I.hok ha
  obtain ⟨od, J, _⟩ := J.look
  obtain ⟨m', hF⟩ := I.fr
  refine PySem.W.len_K hF I.ok.mod.kin J m.at_ m.fn ?_
  refine wpAny_mono (run_in1 F hr hb hx I r h) (fun v s' hv => ?_) fun _ _ e => e
  obtain ⟨z, H', I', rz, n, ez, hn, q⟩ := hv
  subst ez
  obtain ⟨t, rfl⟩ := rz
  exact ⟨hn, .int n, H', I'.tok _, ⟨_, rfl⟩, q⟩
theorem cr_range1 : CallR X (.type "range") (fun vs H Q => ∃ j, vs = [V.int j] ∧ ∀ p, H p = none → Q (.ref p) (upd H p (.rng 0 j))) := by
  intro pins s σ H vs us Q I r h
  obtain ⟨j, rfl, q⟩ := h
  obtain ⟨u1, rfl, rj⟩ := vals1 r
  obtain ⟨t, rfl⟩ := rj
  refine call_range_1 ⟨.ref s.heap.objs.size, upd H s.heap.objs.size (.rng 0 j), I.laid (t' := _) (fun b o e => Heap.get?_push_of_some _ e) (Nat.le_refl _) ?_, rfl, q _ (I.hok.fresh (Nat.le_refl _))⟩
  exact ⟨_, t, _, Heap.get?_push_size _ rfl⟩
theorem call_len_rng : CallR X (.builtin "len") (fun vs H Q => ∃ (p : Addr) (j : Int), vs = [V.ref p] ∧ H p = some (.rng 0 j) ∧ 0 ≤ j ∧ j < 2 ^ 62 ∧ Q (.int j) H) := by
  intro pins s σ H vs us Q I r h
  obtain ⟨p, j, rfl, hp, h0, h1, q⟩ := h
  obtain ⟨u1, rfl, rj⟩ := vals1 r
  cases rj
  obtain ⟨t, u, v, ho⟩ := I.hok p _ hp
  have e : Builtin.Range.rangeSize 0 j 1 = ((j.toNat : Nat) : Int) := by rw [rangeSize_one]; split <;> omega
  have e2 : ((j.toNat : Nat) : Int) = j := by omega
  exact call_len_range (n := j.toNat) (show IsRange s.heap p 0 j 1 t u v from ho) e (by omega) ⟨.int j, H, I.tok _, ⟨s.toks + 1, by rw [e2]⟩, q⟩
end
end RP
set_option maxHeartbeats 4000000
namespace RP
open PySem PySem.Spec PyProof.Rows L2
/-! ### a function's class -/
theorem sl_fn_ga : Slot "function" "__getattribute__" "object.__getattribute__" :=
  .of (owner := "object") (n := "__getattribute__") (by rw [typeLookup_type, builtinLookup_eq_fast]; kernel_rfl) (by decide +kernel) (by decide +kernel) (by decide +kernel)
    (by first | exact .inl (by decide +kernel) | exact .inr (by decide +kernel)) (by rw [isSubtype_type]; kernel_rfl)
theorem lk_fn_class : typeLookup (.type "function") "__class__" = pure (some (.builtin "object.__class__")) := by rw [typeLookup_type, builtinLookup_eq_fast]; kernel_rfl
theorem sub_fn_owner : isSubtype (.type "function") (.type (".".intercalate ("object.__class__".cutAt '.').dropLast)) = pure true := by
  rw [F.owner_object_class, isSubtype_type]; kernel_rfl
theorem en_ga : entryFor table "object.__getattribute__" = some Builtin.«object.__getattribute__» := entryFor_of_tree (by kernel_rfl)
theorem args_ga (a b : Value) : argsOk "object.__getattribute__" ⟨[a, b], []⟩ := by unfold argsOk; kernel_rfl
section
variable {prog : Program} {w : World} {A : Around} {E : Value → Shared → Prop} {h : Heap} {g : Array GenState} {d : Drawn} {t : Nat} {os : OsState} {a : Addr} {o : Obj}
theorem fn_class_get {R : Result → Shared → Prop} (hx : h.get? a = some o) (hc : o.cls = .type "function") (hq : R (.ok (.ret (.type "function"))) ⟨h, g, d, t, os⟩) :
    codeAny (model prog w) A (.call (.builtin "getset_descriptor.__get__") ⟨[.builtin "object.__class__", .ref a, .type "function"], []⟩) R ⟨h, g, d, t, os⟩ := by
  have hT : (⟨h, g, d, t, os⟩ : Shared).TypeIs (.ref a) "function" := ⟨_, hx, hc⟩
  have hT5 : (⟨h, g, d, t, os⟩ : Shared).TypeIs (.builtin "object.__class__") "getset_descriptor" := F.typeOf_object_class
  have f8 := sub_fn_owner
  refine codeAny_call_builtin F.slot_gs_get.plain F.entry_gs_get (F.slot_gs_get.check _ _ _ _ _ _ _ _ hT5 (F.args_gs_get _ _ _) ?_)
  repeat (any_goals (first | assumption | wp_step))
  refine ⟨Code.quiet_builtin _ (by decide +kernel), codeAny_builtin F.entry_object_class ?_⟩
  repeat (any_goals (first | assumption | wp_step))
theorem fn_class_entry {tk : Tok} {Q : Fin → Shared → Prop} (hx : h.get? a = some o) (hc : o.cls = .type "function") (hq : Q (.done (.ret (.type "function"))) ⟨h, g, d, t, os⟩) :
    wpAny (model prog w) A (Builtin.«object.__getattribute__» ⟨[.ref a, .str "__class__" tk], []⟩) Q E ⟨h, g, d, t, os⟩ := by
  have hT : (⟨h, g, d, t, os⟩ : Shared).TypeIs (.ref a) "function" := ⟨_, hx, hc⟩
  have hT5 : (⟨h, g, d, t, os⟩ : Shared).TypeIs (.builtin "object.__class__") "getset_descriptor" := F.typeOf_object_class
  have f4 := lk_fn_class
  have f5 := F.typeOf_object_class
  have f6 := F.slot_gs_get.lookup
  have f7 := F.slot_gs_set.lookup
  repeat (any_goals (first | assumption | wp_step))
  refine fn_class_get hx hc ?_
  repeat (any_goals (first | assumption | wp_step))
theorem fn_class_call {tk : Tok} {R : Result → Shared → Prop} (hx : h.get? a = some o) (hc : o.cls = .type "function") (hq : R (.ok (.ret (.type "function"))) ⟨h, g, d, t, os⟩) :
    codeAny (model prog w) A (.call (.builtin "object.__getattribute__") ⟨[.ref a, .str "__class__" tk], []⟩) R ⟨h, g, d, t, os⟩ :=
  codeAny_call_builtin sl_fn_ga.plain en_ga (sl_fn_ga.check _ _ _ _ _ _ _ _ (show (⟨h, g, d, t, os⟩ : Shared).TypeIs (.ref a) "function" from ⟨_, hx, hc⟩) (args_ga _ _) (fn_class_entry hx hc hq))
theorem fn_class_by {tk : Tok} {Q : Value → Shared → Prop} (hx : h.get? a = some o) (hc : o.cls = .type "function") (hq : Q (.type "function") ⟨h, g, d, t, os⟩) : wpAny (model prog w) A (getAttrBy (.ref a) (.str "__class__" tk) false) Q E ⟨h, g, d, t, os⟩ := by
  have hT : (⟨h, g, d, t, os⟩ : Shared).TypeIs (.ref a) "function" := ⟨_, hx, hc⟩
  have f2 := sl_fn_ga.lookup
  have f3 := sl_fn_ga.bind (.ref a)
  repeat (any_goals (first | assumption | wp_step))
  refine fn_class_call hx hc ?_
  repeat (any_goals (first | assumption | wp_step))
theorem fn_class_attr {Q : Option Value → Shared → Prop} (hx : h.get? a = some o) (hc : o.cls = .type "function") (hq : Q (some (.type "function")) ⟨h, g, d, t + 1, os⟩) : wpAny (model prog w) A (getAttr? (.ref a) "__class__") Q E ⟨h, g, d, t, os⟩ := by
  unfold getAttr? getAttrBy?
  repeat (any_goals (first | assumption | with_reducible apply fn_class_by hx hc | wp_step))
end
theorem kitx_fn {K : PySem.W.Frag} {a : Addr} : PySem.W.KitX K (.ref a) (.type "function") (PySem.W.KitAt a "function") :=
  PySem.W.kitx_of PySem.W.kitAt_ty (fun {_ _ _ _ _ s} p k => by obtain ⟨h, g, d, t, os⟩ := s; obtain ⟨o, h1, h2⟩ := p; exact fn_class_attr h1 h2 k)
/-- isinstance(f, T) of a function, T a built-in type that is none of its own -/
def rIsiF (T : String) : List V → Hp → VK → Prop := fun vs H Q => ∃ (a : Addr), vs = [.ref a, .ty T] ∧ (∀ P w h, HOk P w H h → ∃ o, h.get? a = some o ∧ o.cls = .type "function") ∧ Q (.bl false) H
section
variable {X : Cx}
theorem call_isiF {T : String} (hT : kitB "function" T = some false) (hk : ∀ (K : PySem.W.Frag) (f : Addr) (o : Obj), K.lookup f = some o → True := fun _ _ _ _ => trivial) : CallR X (.builtin "isinstance") (fun vs H Q => ∃ (a : Addr), vs = [.ref a, .ty T] ∧
    (∀ h, X.K.In h → HOk X.prog X.w H h → ∃ o, h.get? a = some o ∧ o.cls = .type "function") ∧ Q (.bl false) H) := by
  intro pins s σ H vs us Q I r h
  obtain ⟨a, rfl, hf, q⟩ := h
  obtain ⟨u1, u2, rfl, r1, r2⟩ := vals2 r
  cases r1
  obtain rfl : u2 = Value.type T := r2
  have e : PySem.W.kitOne X.K (.type "function") (.type T) = some false := kit_ty hT
  exact PySem.W.kia_one kitx_fn I.kIn (hf _ I.kIn I.hok) e (fun z => nomatch z) fun tk => ⟨.bl false, H, I.tok tk, rfl, q⟩
end
end RP
set_option maxHeartbeats 4000000
namespace RP
open PySem PySem.Spec PyProof.Rows L2
section
variable {X : Cx}
/-! ### repr of nested data: its text hangs on the data alone -/
def rRepr (K : PySem.W.Frag) : List V → Hp → VK → Prop := fun vs H Q => ∃ (a : Addr) (d : PyData), vs = [.ref a] ∧ Dp K H (.ref a) d ∧ d.showable = true ∧ d.hasDict = false ∧ d.depth ≤ 30 ∧ d.shown.length ≤ sizeLine ∧ Q (.str d.shown) H
theorem call_repr (hg : X.A.guards = some []) (hu : X.A.units + 64 < cLine) : CallR X (.builtin "repr") (rRepr X.K) := by
  intro pins s σ H vs us Q I r h
  obtain ⟨a, d, rfl, hd, hs, hn, hdp, hz, q⟩ := h
  obtain ⟨u1, rfl, r1⟩ := vals1 r
  cases r1
  obtain ⟨as, rd⟩ := Dp.reads I d _ _ hd (rfl : RelV (V.ref a) (Value.ref a))
  refine repr_of_reads' rd hs (PyData.noDict_hsm hn) hg (by omega) (fun _ _ e => e) (fun h' u tk hk => ?_) hz
  exact ⟨.str d.shown, H, I.kept hk, ⟨u, rfl⟩, q⟩
/-! ### a < b of data that are alike -/
def rLtD (K : PySem.W.Frag) : R2 := fun x y H Q => ∃ d e, Dp K H x d ∧ Dp K H y e ∧ PySem.W.alike d e = true ∧ d ≠ .none ∧ d.depth ≤ 30 ∧ Q (.bl (PySem.W.dataLt d e)) H
theorem op_ltD (hu : X.A.units + 64 < cLine) : OpR X (compareOp .Lt) (rLtD X.K) := by
  intro pins s σ H x y v u Q I rx ry h
  obtain ⟨d, e, hd, he, ha, hn, hdp, q⟩ := h
  obtain ⟨as, r1⟩ := Dp.reads I d x v hd rx
  obtain ⟨bs, r2⟩ := Dp.reads I e y u he ry
  show wpAny (model X.prog X.w) X.A (richCompare .Lt v u) (EP X pins σ Q) X.xe s
  exact PySem.W.rcLt_alike d e X.A s v u as bs r1 r2 ha hn (by omega) X.prog X.w X.xe _ ⟨.bl _, H, I, rfl, q⟩
/-! ### sorted of data that are alike -/
def rSortD (K : PySem.W.Frag) : List V → Hp → VK → Prop := fun vs H Q => ∃ (a : Addr) (xs : List V) (β : Type) (enc : β → PyData) (bs : List β), vs = [.ref a] ∧ SqL K H a xs ∧ PySem.W.EachIs (fun x b => Dp K H x (enc b)) xs bs ∧
  PySem.W.AllAlike (bs.map enc) ∧ PySem.W.Sortable (bs.map enc) ∧ (∀ b ∈ bs, (enc b).depth ≤ 30) ∧ ∀ ys p, H p = none → PySem.W.EachIs (fun x b => Dp K H x (enc b)) ys (bs.mergeSort (PySem.W.dataLe false enc)) → Q (.ref p) (upd H p (.lst ys))
theorem each_vals {R : Value → V → Prop} : ∀ {us : List Value} {β : Type} {bs : List β} {S : V → β → Prop}, PySem.W.EachIs (fun u b => ∃ x, RelV x u ∧ S x b) us bs → ∃ xs, Vals xs us ∧ PySem.W.EachIs S xs bs
  | _, _, _, _, .nil => ⟨[], .nil, .nil⟩
  | _, _, _, _, .cons ⟨x, r, h⟩ t => by
    obtain ⟨xs, rr, hh⟩ := each_vals (R := R) t
    exact ⟨x :: xs, .cons r rr, .cons h hh⟩
theorem vals_each {β : Type} {S : V → β → Prop} : ∀ {xs : List V} {us : List Value} {bs : List β}, Vals xs us → PySem.W.EachIs S xs bs → PySem.W.EachIs (fun u b => ∃ x, RelV x u ∧ S x b) us bs
  | _, _, _, .nil, .nil => .nil
  | _, _, _, .cons r rr, .cons h hh => .cons ⟨_, r, h⟩ (vals_each rr hh)
theorem each_len {α β : Type} {R : α → β → Prop} : ∀ {as : List α} {bs : List β}, PySem.W.EachIs R as bs → as.length = bs.length
  | _, _, .nil => rfl
  | _, _, .cons _ t => congrArg Nat.succ (each_len t)
theorem cr_sortD (hu : X.A.units + 64 < cLine) : CallR X (.builtin "sorted") (rSortD X.K) := by
  intro pins s σ H vs us Q I r h
  obtain ⟨a, xs, β, enc, bs, rfl, hs, he, ha, hk, hdp, q⟩ := h
  obtain ⟨its, rv, hl, hz⟩ := I.list hs
  rw [Vals.ref1 r]
  have e1 := vals_each rv he
  have e2 : PySem.W.EachIs (fun v b => ∃ as, Reads s.heap v (enc b) as) its bs := e1.mono fun v b ⟨x, rx, hx⟩ => Dp.reads I (enc b) x v hx rx
  have lens : its.length = bs.length := each_len e1
  have hbz : bs.length ≤ sizeLine := by rw [← lens, ← rv.length]; exact hz
  refine PySem.W.sorted_data hl.isList e1 e2 ha hk hbz (fun b hb => by have := hdp b hb; omega) fun out ho hout => ?_
  obtain ⟨ys, ry, hy⟩ := each_vals (R := fun _ _ => True) hout
  obtain ⟨ep, he'⟩ := PyProof.Rows.sortedAll_at s.heap its out.toArray
  have hlen : ys.length ≤ sizeLine := by rw [ry.length, ho]; exact hbz
  exact ⟨.ref _, upd H (s.heap.objs.size + 1) (.lst ys), I.laid (t' := s.toks) (fun _ _ => PyProof.Rows.sortedAll_old) (Nat.le_succ _) ⟨hlen, out, ep, ry, he'⟩, rfl, q ys _ (I.hok.fresh (Nat.le_succ _)) hy⟩
end
end RP
set_option maxHeartbeats 4000000
namespace RP
open PySem PySem.Spec PyProof.Rows L2
/-! ### tuple * whole number, any -/
theorem tup_mul0 (l : Addr) (items : Array Value) (n : Nat) (dd : Option Addr) (sl : Array (Option Value)) (x : Int) (u : Tok) (c0 : (decide (x < -(2 ^ 63)) || decide (x ≥ 2 ^ 63)) = false) (c1 : (items.isEmpty || x == 1) = false) (c2 : (decide (x ≤ 0) || items.isEmpty) = true) :
    Meets (Builtin.«tuple.__mul__» ⟨[.ref l, .int x u], []⟩) (fun _ R s => s.heap.get? l = some { cls := .type "tuple", dict := dd, data := .seq items n, slots := sl } ∧
      R (.ok (.ret (Value.ref s.heap.objs.size))) { s with heap := s.heap.push { cls := Value.type "tuple", data := Data.seq #[] }, toks := s.toks }) :=
  .of_wp fun prog w A R s h => by
    obtain ⟨hp, g, d, tk, os⟩ := s
    obtain ⟨hl, h⟩ := h
    have f1 := AutoSeq1.idx_int
    wp_walk using wpAny_loadPart' hl
    repeat (first
      | (refine wpAny_ite_false (decide_eq_false (by rw [c0]; exact Bool.false_ne_true)) ?_; wp_walk using wpAny_loadPart' hl)
      | (refine wpAny_ite_false (decide_eq_false (by rw [c1]; exact Bool.false_ne_true)) ?_; wp_walk using wpAny_loadPart' hl)
      | (refine wpAny_ite_true (decide_eq_true (by rw [c2])) ?_; wp_walk using wpAny_loadPart' hl))
    all_goals exact ⟨_, rfl, h⟩
theorem tup_mul1 (l : Addr) (items : Array Value) (n : Nat) (dd : Option Addr) (sl : Array (Option Value)) (x : Int) (u : Tok) (c0 : (decide (x < -(2 ^ 63)) || decide (x ≥ 2 ^ 63)) = false) (c1 : (items.isEmpty || x == 1) = true) :
    Meets (Builtin.«tuple.__mul__» ⟨[.ref l, .int x u], []⟩) (fun _ R s => s.heap.get? l = some { cls := .type "tuple", dict := dd, data := .seq items n, slots := sl } ∧
      R (.ok (.ret (Value.ref l))) s) :=
  .of_wp fun prog w A R s h => by
    obtain ⟨hp, g, d, tk, os⟩ := s
    obtain ⟨hl, h⟩ := h
    have f1 := AutoSeq1.idx_int
    wp_walk using wpAny_loadPart' hl
    repeat (first
      | (refine wpAny_ite_false (decide_eq_false (by rw [c0]; exact Bool.false_ne_true)) ?_; wp_walk using wpAny_loadPart' hl)
      | (refine wpAny_ite_true (decide_eq_true (by rw [c1])) ?_; wp_walk using wpAny_loadPart' hl))
    all_goals exact ⟨_, rfl, h⟩
end RP
set_option maxHeartbeats 4000000
namespace RP
open PySem PySem.Spec PyProof.Rows L2
/-! ### (x,) * n -/
def rRep1 (K : PySem.W.Frag) : R2 := fun x y H Q => ∃ (l : Addr) (k : Int) (v : V), x = .ref l ∧ y = .int k ∧ SqT K H l [v] ∧ 0 ≤ k ∧ k ≤ 1000 ∧ (k = 1 → Q (.ref l) H) ∧ (k ≠ 1 → ∀ p, H p = none → Q (.ref p) (upd H p (.tup (List.replicate k.toNat v))))
section
variable {X : Cx}
theorem flat1 {α : Type} (v : α) : ∀ n : Nat, (List.replicate n [v]).flatten = List.replicate n v
  | 0 => rfl
  | n + 1 => by rw [List.replicate_succ, List.flatten_cons, flat1 v n]; rfl
theorem op_rep1 : OpR X (binaryOp .Mult) (rRep1 X.K) := by
  intro pins s σ H x y v u Q I rx ry h
  obtain ⟨l, k, e, rfl, rfl, hT, h1, h2, q1, q2⟩ := h
  by_cases k2 : 2 ≤ k
  · refine op_repT pins s σ H _ _ v u Q I rx ry ⟨l, k, [e], rfl, rfl, hT, by simp, k2, h2, by simp, fun p hp => ?_⟩
    rw [flat1]
    exact q2 (by omega) p hp
  · cases rx
    obtain ⟨t, rfl⟩ := ry
    obtain ⟨its, r, ⟨⟨cls, dd, data, sl⟩, ho, hc, n, hd⟩, hs⟩ := I.tuple hT
    simp only at hc hd
    subst hc hd
    have hle : its.length = 1 := r.length.symm
    have hi : its.toArray.isEmpty = false := by
      cases its with
      | nil => simp at hle
      | cons a b => rfl
    have c0 : (decide (k < -(2 ^ 63)) || decide (k ≥ 2 ^ 63)) = false := by
      rw [decide_eq_false (by omega), decide_eq_false (by omega)] <;> rfl
    by_cases k1 : k = 1
    · have c1 : (its.toArray.isEmpty || k == 1) = true := by
        rw [hi, Bool.false_or]
        exact beq_iff_eq.mpr k1
      refine wpAny_binaryOp_repeat_ref (T := "tuple") (U := "int") (by decide) ⟨_, ho, rfl⟩ (fun s' => typeIs_int s' k t) noFill_tuple_mul F.fills_int_mul F.slot_int_rmul repeat_tuple F.slot_int_index.lookup
        (call_meets F.slot_int_rmul (typeIs_int s k t) F.entry_int_rmul (F.args_int_rmul_2 _ _) (int_rmul_tuple k t l its.toArray n dd sl)
          ⟨ho, rfl, ⟨_, ho, rfl⟩, call_meets F.slot_tuple_mul ⟨_, ho, rfl⟩ F.entry_tuple_mul (F.args_tuple_mul_2 _ _) (tup_mul1 l its.toArray n dd sl k t c0 c1) ⟨ho, ?_⟩⟩)
      exact ⟨.ref l, H, I, rfl, q1 k1⟩
    · have kz : k = 0 := by omega
      have c1 : (its.toArray.isEmpty || k == 1) = false := by
        rw [hi, Bool.false_or]
        exact beq_eq_false_iff_ne.mpr k1
      have c2 : (decide (k ≤ 0) || its.toArray.isEmpty) = true := by
        rw [decide_eq_true (by omega)] <;> rfl
      refine wpAny_binaryOp_repeat_ref (T := "tuple") (U := "int") (by decide) ⟨_, ho, rfl⟩ (fun s' => typeIs_int s' k t) noFill_tuple_mul F.fills_int_mul F.slot_int_rmul repeat_tuple F.slot_int_index.lookup
        (call_meets F.slot_int_rmul (typeIs_int s k t) F.entry_int_rmul (F.args_int_rmul_2 _ _) (int_rmul_tuple k t l its.toArray n dd sl)
          ⟨ho, rfl, ⟨_, ho, rfl⟩, call_meets F.slot_tuple_mul ⟨_, ho, rfl⟩ F.entry_tuple_mul (F.args_tuple_mul_2 _ _) (tup_mul0 l its.toArray n dd sl k t c0 c1 c2) ⟨ho, ?_⟩⟩)
      have q3 := q2 k1 _ (I.hok.fresh (Nat.le_refl _))
      rw [kz] at q3
      refine ⟨.ref s.heap.objs.size, _, I.laid (t' := s.toks) (o := .tup []) (fun b ob q => Heap.get?_push_of_some _ q) (Nat.le_refl _) ?_, rfl, q3⟩
      exact ⟨Nat.zero_le _, [], .nil, IsTup.new _ _⟩
end
end RP
set_option maxHeartbeats 4000000
namespace RP
open PySem PySem.Spec PyProof.Rows L2
/-! ### looks at the head's objects -/
def fnB (K : PySem.W.Frag) (f : Addr) : Bool := match K.lookup f with
  | some o => o.cls == .type "function"
  | none => false
theorem fnB_ok {K : PySem.W.Frag} {f : Addr} (h : fnB K f = true) : ∃ o, K.lookup f = some o ∧ o.cls = .type "function" := by
  unfold fnB at h
  split at h
  · rename_i o ho
    exact ⟨o, ho, beq_iff_eq.mp h⟩
  · cases h
def neB (K : PySem.W.Frag) (C f : Addr) : Bool := match K.lookup C with
  | some ⟨.type "type", _, .cls cd, sl⟩ => (match cd.mro, sl.toList with
    | [.ref C', .type "object"], [_, _, _, _, some (.builtin _), _] => C' == C && !cd.hasDel && PySem.W.nsOkIn K cd.ns && PySem.W.nsIn K cd.ns "__eq__" == some (some (.ref f)) && PySem.W.nsIn K cd.ns "__ne__" == some none
    | _, _ => false)
  | _ => false
/-- an exception class over ValueError with its own __init__ f -/
def oexB (K : PySem.W.Frag) (C f : Addr) : Bool := (match K.lookup C with
  | some ⟨.type "type", _, .cls cd, sl⟩ => (match cd.mro, sl.toList with
    | .ref C' :: bm, [_, _, _, _, some (.builtin n), _] => C' == C && n == "ValueError.__new__" && !cd.hasDel && cd.hasDict && PySem.HandSPX.refsVE bm
    | _, _ => false)
  | _ => false) && (decide (PySem.W.findIn K (.ref C) "__setattr__" = some (some (.builtin "object.__setattr__"))) && (decide (PySem.W.subIn K (.ref C) (.type "BaseException") = some true) && (decide (PySem.W.typeIn K (.ref C) = some (.type "type")) && (PySem.W.keepIn K (.ref C) &&
  (decide (PySem.W.findIn K (.ref C) "limit" = some none) && (decide (PySem.W.findIn K (.ref C) "__init__" = some (some (.ref f))) && (decide (PySem.W.typeIn K (.ref f) = some (.type "function")) && (decide (PySem.W.exmOne K (.ref C) (.ref C) = some true) &&
  (match PySem.W.findCls K (.type "ValueError") (.type "type") "__init__" with
    | some (.val (.builtin s)) => s == "ValueError.__init__"
    | _ => false)))))))))
structure Oex (K : PySem.W.Frag) (C f : Addr) : Prop where
  c : OexC K C
  lim : PySem.W.findIn K (.ref C) "limit" = some none
  ini : PySem.W.findIn K (.ref C) "__init__" = some (some (.ref f))
  ty : PySem.W.typeIn K (.ref f) = some (.type "function")
  exm : PySem.W.exmOne K (.ref C) (.ref C) = some true
  vei : PySem.W.findCls K (.type "ValueError") (.type "type") "__init__" = some (.val (.builtin "ValueError.__init__"))
theorem oexB_ok {K : PySem.W.Frag} {C f : Addr} (h : oexB K C f = true) : Oex K C f := by
  unfold oexB at h
  obtain ⟨h1, h⟩ := Bool.and_eq_true_iff.mp h
  obtain ⟨h2, h⟩ := Bool.and_eq_true_iff.mp h
  obtain ⟨h3, h⟩ := Bool.and_eq_true_iff.mp h
  obtain ⟨h4, h⟩ := Bool.and_eq_true_iff.mp h
  obtain ⟨h5, h⟩ := Bool.and_eq_true_iff.mp h
  obtain ⟨h6, h⟩ := Bool.and_eq_true_iff.mp h
  obtain ⟨h7, h⟩ := Bool.and_eq_true_iff.mp h
  obtain ⟨h8, h⟩ := Bool.and_eq_true_iff.mp h
  obtain ⟨h9, h10⟩ := Bool.and_eq_true_iff.mp h
  refine ⟨⟨?_, of_decide_eq_true h2, of_decide_eq_true h3, of_decide_eq_true h4, h5⟩, of_decide_eq_true h6, of_decide_eq_true h7, of_decide_eq_true h8, of_decide_eq_true h9, ?_⟩
  · split at h1
    · rename_i dd cd sl ho
      split at h1
      · rename_i C' bm k0 k1 k2 k3 n k5 hm hs
        simp only [Bool.and_eq_true, beq_iff_eq, Bool.not_eq_true'] at h1
        obtain ⟨⟨⟨⟨rfl, rfl⟩, hdel⟩, hdc⟩, hbm⟩ := h1
        obtain ⟨nm, bs, mro, ns, qn, hd, sn, sub, ab, col, del⟩ := cd
        dsimp only at hm hdel hdc
        subst hm hdel hdc
        have hsl : sl = #[k0, k1, k2, k3, some (.builtin "ValueError.__new__"), k5] := by
          obtain ⟨l⟩ := sl
          simp only at hs
          rw [hs]
        subst hsl
        exact ⟨nm, qn, ns, bs, bm, sn, sub, ab, col, dd, k0, k1, k2, k3, k5, ho, hbm⟩
      · cases h1
    · cases h1
  · split at h10
    · rename_i s hf
      rw [hf, beq_iff_eq.mp h10]
    · cases h10
/-- isinstance of its instances -/
def isiB (K : PySem.W.Frag) (C : Addr) : Bool := decide (PySem.W.findIn K (.ref C) "__class__" = some (some (.builtin "object.__class__"))) && (decide (PySem.W.specialIn K (.builtin "object.__class__") "__get__" = some (some (.builtin "getset_descriptor.__get__"))) &&
  (decide (PySem.W.takesIn K (.builtin "object.__class__") = some true) && decide (PySem.W.mroIn K C (.type "object") = some true)))
theorem isi_ty {K : PySem.W.Frag} {C : Addr} (h : isiB K C = true) (cl : Cls K C) {H : Hp} {a dx : Addr} {fs : List (Str × V)} (e : H a = some (.ins C dx fs)) : TyX K H (.ref a) (.ref C) := by
  unfold isiB at h
  obtain ⟨h1, h⟩ := Bool.and_eq_true_iff.mp h
  obtain ⟨h2, h⟩ := Bool.and_eq_true_iff.mp h
  obtain ⟨h3, h4⟩ := Bool.and_eq_true_iff.mp h
  exact .base (.ins e cl (of_decide_eq_true h1) (of_decide_eq_true h2) (of_decide_eq_true h3) (of_decide_eq_true h4))
/-- what is asked of the head beside the facts by names -/
def exB (K : PySem.W.Frag) : Bool := He.tupB K "FIRST" [.int 0, .int (-1), .int 0, .int 0, .int 0, .int 0] && (fnB K (He.ga K "_law_rule") && (fnB K (He.ga K "_law_odd") && (neB K (He.ga K "Run") (He.ma K (He.ga K "Run") "__eq__") && (fnB K (He.ma K (He.ga K "Run") "__eq__") && (isiB K (He.ga K "Run") && oexB K (He.ga K "TooMany") (He.ma K (He.ga K "TooMany") "__init__"))))))
structure Ex (K : PySem.W.Frag) : Prop where
  first : He.tupB K "FIRST" [.int 0, .int (-1), .int 0, .int 0, .int 0, .int 0] = true
  rule : fnB K (He.ga K "_law_rule") = true
  odd : fnB K (He.ga K "_law_odd") = true
  ne : neB K (He.ga K "Run") (He.ma K (He.ga K "Run") "__eq__") = true
  eq : fnB K (He.ma K (He.ga K "Run") "__eq__") = true
  isi : isiB K (He.ga K "Run") = true
  too : Oex K (He.ga K "TooMany") (He.ma K (He.ga K "TooMany") "__init__")
theorem exB_ok {K : PySem.W.Frag} (h : exB K = true) : Ex K := by
  unfold exB at h
  obtain ⟨h1, h⟩ := Bool.and_eq_true_iff.mp h
  obtain ⟨h2, h⟩ := Bool.and_eq_true_iff.mp h
  obtain ⟨h3, h⟩ := Bool.and_eq_true_iff.mp h
  obtain ⟨h4, h⟩ := Bool.and_eq_true_iff.mp h
  obtain ⟨h5, h⟩ := Bool.and_eq_true_iff.mp h
  obtain ⟨h6, h7⟩ := Bool.and_eq_true_iff.mp h
  exact ⟨h1, h2, h3, h4, h5, h6, oexB_ok h7⟩
end RP
set_option maxHeartbeats 4000000
namespace RP
open PySem PySem.Spec PyProof.Rows L2
/-! ### a != b of instances with an own __eq__ -/
theorem ns_some_of {K : PySem.W.Frag} {h : Heap} {N : Addr} {mg : Str → Option Value} {n : Str} {v : Value} (X : K.In h) (G : h.Ns N mg) (e : PySem.W.nsIn K N n = some (some v)) : mg n = some v := by
  obtain ⟨o, es, ep, ho, hd, _, hf⟩ := G
  unfold PySem.W.nsIn at e
  split at e
  · rename_i c d es' n' sl q
    have := X _ _ q
    rw [ho] at this
    cases this
    cases hd
    split at e
    · rename_i en he
      cases e
      rw [← hf]
      unfold nsFind findBy
      rw [← Array.find?_toList, he]
      rfl
    · split at e <;> cases e
  · cases e
theorem lk_obj_eq : typeLookup (.type "object") "__eq__" = pure (some (.builtin "object.__eq__")) := by rw [typeLookup_type, builtinLookup_eq_fast]; kernel_rfl
def rNeO (C : Addr) (sp : Sp) (E : XK) : R2 := fun x y H Q => ∃ (a b dx dy : Addr) (fs gs : List (Str × V)), x = .ref a ∧ y = .ref b ∧ H a = some (.ins C dx fs) ∧ H b = some (.ins C dy gs) ∧ sp [.ref a, .ref b] H (fun v H' => ∃ c : Bool, v = .bl c ∧ Q (.bl (!c)) H') E
section
variable {X : Cx}
theorem op_neO {CX : CXT} {k : Nat} {C f : Addr} {fd : FuncData} {ps : List Str} {sp : Sp} {E : XK} (F : FnOk X.prog X.w X.K X.mg X.base CX k f fd ps sp) (hB : neB X.K C f = true) (hF : fnB X.K f = true) (hr : Room (k + 1) X.A) (hb : Binds X.K fd ps []) (hx : Passes CX X E) :
    OpR X (compareOp .NotEq) (rNeO C sp E) := by
  intro pins s σ H x y v u Q I rx ry h
  obtain ⟨a, b, dx, dy, fs, gs, rfl, rfl, ha, hb', h⟩ := h
  cases rx
  cases ry
  obtain ⟨_, _, _, oa, _⟩ := (show ObjOk X.prog X.w H s.heap a (.ins C dx fs) from I.hok a _ ha)
  obtain ⟨_, _, _, ob, _⟩ := (show ObjOk X.prog X.w H s.heap b (.ins C dy gs) from I.hok b _ hb')
  obtain ⟨of, hof, hfc⟩ := fnB_ok hF
  have key : s.heap.OwnEqNoNe a C f "object" [.type "object"] := by
    unfold neB at hB
    split at hB
    · rename_i dd cd sl ho
      split at hB
      · rename_i C' k0 k1 k2 k3 n k5 hm hs
        simp only [Bool.and_eq_true, beq_iff_eq, Bool.not_eq_true'] at hB
        obtain ⟨⟨⟨⟨rfl, hdel⟩, hok⟩, he⟩, hne⟩ := hB
        obtain ⟨nm, bs, mro, ns, qn, hd, sn, sub, ab, col, del⟩ := cd
        dsimp only at hm hdel hok he hne
        subst hm hdel
        have hsl : sl = #[k0, k1, k2, k3, some (.builtin n), k5] := by
          obtain ⟨l⟩ := sl
          simp only at hs
          rw [hs]
        subst hsl
        have G : s.heap.Ns ns (s.heap.nsMap ns) := .of_isNs (PySem.W.isNs_of_in I.kIn hok)
        exact ⟨_, of, nm, qn, ns, bs, hd, sn, sub, ab, col, dd, k0, k1, k2, k3, k5, n, s.heap.nsMap ns, _, oa, rfl, I.kIn _ _ ho, G, ns_some_of I.kIn G he, I.kIn _ _ hof, hfc, PySem.F.mro_object, lk_obj_eq, PySem.W.ns_none_of I.kIn G hne⟩
      · cases hB
    · cases hB
  have hu : X.A.units + 1 < cLine := hu_of hr
  obtain ⟨hh, g, d, t, os⟩ := s
  refine compareOp_ne_ownEq PySem.F.cmp_object key ob rfl hu ?_
  refine wpAny_mono (run_in1 F hr hb hx I (.cons (show RelV (V.ref a) (Value.ref a) from rfl) (.cons (show RelV (V.ref b) (Value.ref b) from rfl) .nil)) h) (fun v s' hv => ?_) fun _ _ e => e
  obtain ⟨z, H', I', rz, c, ez, q⟩ := hv
  subst ez
  cases rz
  exact ⟨c, rfl, .bl (!c), H', I', rfl, q⟩
end
end RP
set_option maxHeartbeats 4000000
namespace RZ
open PySem
open PySem.Sem (wp)
/-! ### zip(t, u, strict=True) of two tuples of one length -/
abbrev IsZipS (h : Heap) (z TI TO : Addr) (f0 : Value) : Prop := h.get? z = some { cls := .type "zip", dict := none, data := .fields #[f0, .bool false, .bool true, .ref TI, .ref TO], slots := #[] }
section
variable {prog : Program} {w : World} {A : Around} {E : Value → Shared → Prop} {s : Shared}
theorem nextOrEnd_item {it l : Addr} {i : Nat} {items} {x : Value} {Q : Option Value → Shared → Prop} (hit : s.heap.IsTupleIter it l i) (hl : s.heap.IsTuple l items) (hx : items[i]? = some x)
    (hQ : ∀ h', h'.IsTupleIter it l (i + 1) → Heap.SameBut it s.heap h' → Q (some x) { s with heap := h' }) : wpAny (model prog w) A (Builtin.SmallTypes.nextOrEnd (.ref it)) Q E s := by
  unfold Builtin.SmallTypes.nextOrEnd
  exact wpAny_bind (wpAny_attempt (nextOf_tuple_item hit hl hx fun h' a b => wpAny_pure (hQ h' a b)))
theorem nextOrEnd_end {it l : Addr} {i : Nat} {items} {Q : Option Value → Shared → Prop} (hh : A.handled = none) (hit : s.heap.IsTupleIter it l i) (hl : s.heap.IsTuple l items) (hx : items[i]? = none)
    (hQ : ∀ h', Heap.ExtBut it s.heap h' → Q none { s with heap := h' }) : wpAny (model prog w) A (Builtin.SmallTypes.nextOrEnd (.ref it)) Q E s := by
  unfold Builtin.SmallTypes.nextOrEnd
  refine wpAny_bind (wpAny_attempt (nextOf_tuple_end hh hit hl hx fun h' e k he => ?_))
  obtain ⟨o, ho, hc⟩ := he
  refine wpAny_bind (wpAny_isInstance (T := "StopIteration") (b := true) ⟨o, ho, hc⟩ isSubtype_stop ?_)
  exact wpAny_pure (hQ _ k)
theorem zipS_next_item {z TI TO i1 i2 l1 l2 : Addr} {k1 k2 : Nat} {xs ys : Array Value} {x y a b : Value} {Q : Value → Shared → Prop} (D : ZipApart z TI TO i1 i2 l1 l2)
    (hz : IsZipS s.heap z TI TO .none) (hTI : IsPair s.heap TI (.ref i1) (.ref i2)) (hTO : IsPair s.heap TO a b)
    (h1 : s.heap.IsTupleIter i1 l1 k1) (h2 : s.heap.IsTupleIter i2 l2 k2) (hl1 : s.heap.IsTuple l1 xs) (hl2 : s.heap.IsTuple l2 ys) (hx : xs[k1]? = some x) (hy : ys[k2]? = some y)
    (hQ : ∀ h', IsZipS h' z TI TO (rawInt s.heap.objs.size) → IsPair h' TO x y → h'.IsTupleIter i1 l1 (k1 + 1) → h'.IsTupleIter i2 l2 (k2 + 1) → IsPair h' s.heap.objs.size x y → h'.objs.size = s.heap.objs.size + 1 →
      (∀ c o, c ≠ z → c ≠ TO → c ≠ i1 → c ≠ i2 → s.heap.get? c = some o → h'.get? c = some o) → Q (.ref s.heap.objs.size) { s with heap := h' }) :
    wpAny (model prog w) A (Builtin.«zip.__next__» ⟨[.ref z], []⟩) (fun fin s' => ∃ v, fin = .done (.ret v) ∧ Q v s') E s := by
  show wpAny _ _ (field (.ref z) 2 >>= _) _ _ _
  refine wpAny_bind (wpAny_field hz rfl (x := .bool true) rfl ?_)
  show wpAny _ _ (field (.ref z) 3 >>= _) _ _ _
  refine wpAny_bind (wpAny_field hz rfl (x := .ref TI) rfl ?_)
  refine wpAny_bind (wpAny_seqItems hTI rfl ?_)
  show wpAny _ _ (Builtin.SmallTypes.ownedTupleIsFree (.ref z) >>= _) _ _ _
  refine wpAny_bind ?_
  unfold Builtin.SmallTypes.ownedTupleIsFree
  refine wpAny_bind (wpAny_field hz rfl (x := .none) rfl (wpAny_pure ?_))
  simp only [if_true]
  refine wpAny_bind (wpAny_rule ?_)
  refine wpAny_bind (wpAny_field hz rfl (x := .ref TO) rfl ?_)
  refine wpAny_bind (wpAny_setField_rec hz (by simp) fun h₁ hz₁ hs₁ => ?_)
  replace hz₁ : IsZipS h₁ z TI TO .ellipsis := hz₁
  refine wpAny_bind ?_
  simp only [List.zipIdx_cons, List.zipIdx_nil, List.forIn_cons, List.forIn_nil]
  refine wpAny_bind (wpAny_bind (wpAny_onRaise ?_))
  show wpAny _ _ (Builtin.SmallTypes.nextOrEnd (.ref i1)) _ _ _
  refine nextOrEnd_item (h1.extBut hs₁.extBut D.i1z) (hl1.extBut hs₁.extBut D.l1z) hx fun h₂ h1₂ hs₂ => ?_
  have hTO₂ : IsPair h₂ TO a b := hs₂.extBut _ _ D.TOi1 (hs₁.extBut _ _ D.TOz hTO)
  refine wpAny_bind (wpAny_seqItems hTO₂ rfl ?_)
  refine wpAny_bind (wpAny_updateSeq_pair hTO₂ fun h₃ hTO₃ hs₃ => ?_)
  replace hTO₃ : IsPair h₃ TO x b := hTO₃
  refine wpAny_bind (wpAny_letGo (wpAny_pure ?_))
  refine wpAny_bind (wpAny_bind (wpAny_onRaise ?_))
  show wpAny _ _ (Builtin.SmallTypes.nextOrEnd (.ref i2)) _ _ _
  refine nextOrEnd_item (((h2.extBut hs₁.extBut D.i2z).extBut hs₂.extBut D.i12.symm).extBut hs₃.extBut D.TOi2.symm)
    (((hl2.extBut hs₁.extBut D.l2z).extBut hs₂.extBut D.l2i1).extBut hs₃.extBut D.l2TO) hy fun h₄ h2₄ hs₄ => ?_
  have hTO₄ : IsPair h₄ TO x b := hs₄.extBut _ _ D.TOi2 hTO₃
  refine wpAny_bind (wpAny_seqItems hTO₄ rfl ?_)
  refine wpAny_bind (wpAny_updateSeq_pair hTO₄ fun h₅ hTO₅ hs₅ => ?_)
  replace hTO₅ : IsPair h₅ TO x y := hTO₅
  refine wpAny_bind (wpAny_letGo (wpAny_pure (wpAny_pure ?_)))
  refine wpAny_bind (wpAny_seqItems hTO₅ rfl ?_)
  refine wpAny_bind (wpAny_newTuple ?_)
  have hsz : h₅.objs.size = s.heap.objs.size := by rw [hs₅.1, hs₄.1, hs₃.1, hs₂.1, hs₁.1]
  have hz₅ : IsZipS h₅ z TI TO .ellipsis := hs₅.extBut _ _ D.TOz.symm (hs₄.extBut _ _ D.i2z.symm (hs₃.extBut _ _ D.TOz.symm (hs₂.extBut _ _ D.i1z.symm hz₁)))
  have hk₅ : ∀ c o, c ≠ z → c ≠ TO → c ≠ i1 → c ≠ i2 → s.heap.get? c = some o → h₅.get? c = some o := fun c o c1 c2 c3 c4 e =>
    hs₅.extBut _ _ c2 (hs₄.extBut _ _ c4 (hs₃.extBut _ _ c2 (hs₂.extBut _ _ c3 (hs₁.extBut _ _ c1 e))))
  have h1₅ : h₅.IsTupleIter i1 l1 (k1 + 1) := ((h1₂.extBut hs₃.extBut D.TOi1.symm).extBut hs₄.extBut D.i12).extBut hs₅.extBut D.TOi1.symm
  have h2₅ : h₅.IsTupleIter i2 l2 (k2 + 1) := h2₄.extBut hs₅.extBut D.TOi2.symm
  have hzlt : z < h₅.objs.size := Heap.lt_size hz₅
  show wpAny _ _ (Builtin.SmallTypes.ownedTupleHandOut (.ref z) (.ref h₅.objs.size) >>= _) _ _ _
  refine wpAny_bind ?_
  unfold Builtin.SmallTypes.ownedTupleHandOut
  have hz₆ : IsZipS (h₅.push { cls := .type "tuple", data := .seq #[x, y] }) z TI TO .ellipsis := Heap.get?_push_of_some _ hz₅
  refine wpAny_bind (wpAny_setField_rec hz₆ (by simp) fun h₇ hz₇ hs₇ => ?_)
  replace hz₇ : IsZipS h₇ z TI TO (rawInt h₅.objs.size) := hz₇
  refine wpAny_setField_rec hz₇ (by simp) fun h₈ hz₈ hs₈ => ?_
  replace hz₈ : IsZipS h₈ z TI TO (rawInt h₅.objs.size) := hz₈
  have up : ∀ c o, c ≠ z → h₅.get? c = some o → h₈.get? c = some o := fun c o c1 e => hs₈.extBut _ _ c1 (hs₇.extBut _ _ c1 (Heap.get?_push_of_some _ e))
  have hT₈ : IsPair h₈ h₅.objs.size x y := hs₈.extBut _ _ (Nat.ne_of_gt hzlt) (hs₇.extBut _ _ (Nat.ne_of_gt hzlt) (Heap.get?_push_size _ rfl))
  have hz8 : h₈.objs.size = h₅.objs.size + 1 := by rw [hs₈.1, hs₇.1, Heap.size_push]
  rw [hsz] at hz₈ hT₈ hz8
  refine wpAny_pure ⟨_, rfl, ?_⟩
  show Q (.ref h₅.objs.size) _
  rw [hsz]
  exact hQ h₈ hz₈ (up _ _ D.TOz hTO₅) (h1₅.at fun o e => up _ o D.i1z e) (h2₅.at fun o e => up _ o D.i2z e) hT₈ hz8 fun c o c1 c2 c3 c4 e => up c o c1 (hk₅ c o c1 c2 c3 c4 e)
theorem zipS_next_end {z TI TO i1 i2 l1 l2 : Addr} {k1 k2 : Nat} {xs ys : Array Value} {a b : Value} {Q : Fin → Shared → Prop} (hh : A.handled = none) (D : ZipApart z TI TO i1 i2 l1 l2)
    (hz : IsZipS s.heap z TI TO .none) (hTI : IsPair s.heap TI (.ref i1) (.ref i2)) (hTO : IsPair s.heap TO a b)
    (h1 : s.heap.IsTupleIter i1 l1 k1) (h2 : s.heap.IsTupleIter i2 l2 k2) (hl1 : s.heap.IsTuple l1 xs) (hl2 : s.heap.IsTuple l2 ys) (hx : xs[k1]? = none) (hy : ys[k2]? = none)
    (hE : ∀ h' e, (∀ c o, c ≠ z → c ≠ TO → c ≠ i1 → c ≠ i2 → s.heap.get? c = some o → h'.get? c = some o) → (∃ o, h'.get? e = some o ∧ o.cls = .type "StopIteration") → E (.ref e) { s with heap := h' }) :
    wpAny (model prog w) A (Builtin.«zip.__next__» ⟨[.ref z], []⟩) Q E s := by
  show wpAny _ _ (field (.ref z) 2 >>= _) _ _ _
  refine wpAny_bind (wpAny_field hz rfl (x := .bool true) rfl ?_)
  show wpAny _ _ (field (.ref z) 3 >>= _) _ _ _
  refine wpAny_bind (wpAny_field hz rfl (x := .ref TI) rfl ?_)
  refine wpAny_bind (wpAny_seqItems hTI rfl ?_)
  show wpAny _ _ (Builtin.SmallTypes.ownedTupleIsFree (.ref z) >>= _) _ _ _
  refine wpAny_bind ?_
  unfold Builtin.SmallTypes.ownedTupleIsFree
  refine wpAny_bind (wpAny_field hz rfl (x := .none) rfl (wpAny_pure ?_))
  simp only [if_true]
  refine wpAny_bind (wpAny_rule ?_)
  refine wpAny_bind (wpAny_field hz rfl (x := .ref TO) rfl ?_)
  refine wpAny_bind (wpAny_setField_rec hz (by simp) fun h₁ hz₁ hs₁ => ?_)
  replace hz₁ : IsZipS h₁ z TI TO .ellipsis := hz₁
  refine wpAny_bind ?_
  simp only [List.zipIdx_cons, List.zipIdx_nil, List.forIn_cons, List.forIn_nil]
  refine wpAny_bind (wpAny_bind (wpAny_onRaise ?_))
  show wpAny _ _ (Builtin.SmallTypes.nextOrEnd (.ref i1)) _ _ _
  refine nextOrEnd_end hh (h1.extBut hs₁.extBut D.i1z) (hl1.extBut hs₁.extBut D.l1z) hx fun h₂ hs₂ => ?_
  have hz₂ : IsZipS h₂ z TI TO .ellipsis := hs₂ _ _ D.i1z.symm hz₁
  refine wpAny_bind (wpAny_setField_rec hz₂ (by simp) fun h₃ hz₃ hs₃ => ?_)
  refine wpAny_bind (wpAny_bind ?_)
  have e1 : (List.drop 1 [Value.ref i1, Value.ref i2]).zipIdx 1 = [(Value.ref i2, 1)] := rfl
  rw [e1]
  simp only [List.forIn_cons, List.forIn_nil]
  have h2₃ : h₃.IsTupleIter i2 l2 k2 := ((h2.extBut hs₁.extBut D.i2z).extBut hs₂ D.i12.symm).extBut hs₃.extBut D.i2z
  have hl2₃ : h₃.IsTuple l2 ys := ((hl2.extBut hs₁.extBut D.l2z).extBut hs₂ D.l2i1).extBut hs₃.extBut D.l2z
  refine wpAny_bind (wpAny_bind (nextOrEnd_end hh h2₃ hl2₃ hy fun h₄ hs₄ => ?_))
  refine wpAny_pure ?_
  refine wpAny_pure ?_
  refine wpAny_bind (wpAny_rule ?_)
  show wpAny _ _ (newExc (.type "StopIteration") [] >>= _) _ _ _
  refine wpAny_bind ?_
  simp only [newExc, newTuple]
  refine wpAny_bind (wpAny_newObj_type ?_ (by size_fits))
  refine wpAny_bind (m := firstArgMember _ _) (wpAny_of_eq (a := Value.none) (by first | rfl | (simp only [firstArgMember]; rfl)) ?_)
  refine wpAny_newObj_type ?_ (by size_fits)
  simp only [raiseNew]
  refine wpAny_bind (wpAny_handled ?_)
  first | rw [show A.in1.handled = none from hh] | rw [hh]
  refine wpAny_bind (wpAny_pure (wpAny_throw ?_))
  exact hE _ _ (fun c o c1 c2 c3 c4 e => Heap.get?_push_of_some _ (Heap.get?_push_of_some _ (hs₄ _ _ c4 (hs₃.extBut _ _ c1 (hs₂ _ _ c3 (hs₁.extBut _ _ c1 e)))))) ⟨_, Heap.get?_push_size _ rfl, rfl⟩
theorem pyNext_zipS_item {z TI TO i1 i2 l1 l2 : Addr} {k1 k2 : Nat} {xs ys : Array Value} {x y a b : Value} {Q : Option Value → Shared → Prop} (D : ZipApart z TI TO i1 i2 l1 l2)
    (hz : IsZipS s.heap z TI TO .none) (hTI : IsPair s.heap TI (.ref i1) (.ref i2)) (hTO : IsPair s.heap TO a b)
    (h1 : s.heap.IsTupleIter i1 l1 k1) (h2 : s.heap.IsTupleIter i2 l2 k2) (hl1 : s.heap.IsTuple l1 xs) (hl2 : s.heap.IsTuple l2 ys) (hx : xs[k1]? = some x) (hy : ys[k2]? = some y)
    (hQ : ∀ h', IsZipS h' z TI TO (rawInt s.heap.objs.size) → IsPair h' TO x y → h'.IsTupleIter i1 l1 (k1 + 1) → h'.IsTupleIter i2 l2 (k2 + 1) → IsPair h' s.heap.objs.size x y → h'.objs.size = s.heap.objs.size + 1 →
      (∀ c o, c ≠ z → c ≠ TO → c ≠ i1 → c ≠ i2 → s.heap.get? c = some o → h'.get? c = some o) → Q (some (.ref s.heap.objs.size)) { s with heap := h' }) :
    wpAny (model prog w) A (pyNext (.ref z)) Q E s := by
  have hT : s.TypeIs (.ref z) "zip" := ⟨_, hz, rfl⟩
  unfold pyNext
  exact wpAny_bind (wpAny_attempt (wpAny_callSpecial?_slot (name := Str.ofString "__next__") hT F.slot_zip_next
    (wpAny_call_entry F.slot_zip_next hT F.entry_zip_next
      (zipS_next_item D hz hTI hTO h1 h2 hl1 hl2 hx hy fun h' a1 a2 a3 a4 a5 a6 a7 => wpAny_pure (hQ h' a1 a2 a3 a4 a5 a6 a7)) (F.args_zip_next_1 _))))
theorem pyNext_zipS_end {z TI TO i1 i2 l1 l2 : Addr} {k1 k2 : Nat} {xs ys : Array Value} {a b : Value} {Q : Option Value → Shared → Prop} (hh : A.handled = none) (D : ZipApart z TI TO i1 i2 l1 l2)
    (hz : IsZipS s.heap z TI TO .none) (hTI : IsPair s.heap TI (.ref i1) (.ref i2)) (hTO : IsPair s.heap TO a b)
    (h1 : s.heap.IsTupleIter i1 l1 k1) (h2 : s.heap.IsTupleIter i2 l2 k2) (hl1 : s.heap.IsTuple l1 xs) (hl2 : s.heap.IsTuple l2 ys) (hx : xs[k1]? = none) (hy : ys[k2]? = none)
    (hQ : ∀ h', (∀ c o, c ≠ z → c ≠ TO → c ≠ i1 → c ≠ i2 → s.heap.get? c = some o → h'.get? c = some o) → Q none { s with heap := h' }) : wpAny (model prog w) A (pyNext (.ref z)) Q E s := by
  have hT : s.TypeIs (.ref z) "zip" := ⟨_, hz, rfl⟩
  unfold pyNext
  refine wpAny_bind (wpAny_attempt (wpAny_callSpecial?_slot (name := Str.ofString "__next__") hT F.slot_zip_next
    (wpAny_call_entry F.slot_zip_next hT F.entry_zip_next (zipS_next_end hh D hz hTI hTO h1 h2 hl1 hl2 hx hy fun h' e hk he => ?_) (F.args_zip_next_1 _))))
  obtain ⟨o, ho, hc⟩ := he
  refine wpAny_bind (wpAny_isInstance (T := "StopIteration") (b := true) ⟨o, ho, hc⟩ isSubtype_stop ?_)
  exact wpAny_pure (hQ _ hk)
theorem letGo_zipS {elts : List Expr} {x1} {pos : Pos} {z TI TO T : Addr} {Q : Unit → Shared → Prop} (hz : IsZipS s.heap z TI TO (rawInt T))
    (hQ : ∀ h', IsZipS h' z TI TO .none → Heap.SameBut z s.heap h' → Q () { s with heap := h' }) :
    wpAny (model prog w) A (letOwnedTupleGo (.Tuple elts x1 pos) (.ref z) (.ref T)) Q E s := by
  unfold letOwnedTupleGo
  refine wpAny_bind (wpAny_load hz ?_)
  show wpAny _ _ (if (["enumerate", "zip", "dict_itemiterator", "dict_reverseitemiterator", "odict_iterator", "itertools.zip_longest", "itertools.pairwise"].contains "zip" &&
      (#[rawInt T, .bool false, .bool true, .ref TI, .ref TO] : Array Value)[0]? == some (rawInt T)) = true then _ else _) Q E s
  rw [if_pos (by simp)]
  refine wpAny_bind (wpAny_rule ?_)
  refine wpAny_setField_rec hz (by simp) fun h' hz' hs' => hQ h' hz' hs'
theorem iter_zipS {z TI TO : Addr} {f0 : Value} {Q : Value → Shared → Prop} (hz : IsZipS s.heap z TI TO f0) (h : Q (.ref z) s) : wpAny (model prog w) A (pyIter (.ref z)) Q E s := by
  have hT : s.TypeIs (.ref z) "zip" := ⟨_, hz, rfl⟩
  refine wpAny_pyIter_slot hT F.slot_zip_iter (wpAny_call_entry F.slot_zip_iter hT F.entry_zip_iter ?_ (F.args_zip_iter_1 _))
  show wpAny _ _ (ret (.ref z)) _ _ s
  exact wpAny_pure ⟨_, rfl, "zip", _, hT, F.slot_zip_next.lookup, h⟩
end
abbrev zipSH5 (h : Heap) (l1 l2 : Addr) : Heap := (zipTH4 h l1 l2).push { cls := .type "zip", data := .fields #[.none, .bool false, .bool true, .ref (zipTH2 h l1 l2).objs.size, .ref (zipTH3 h l1 l2).objs.size] }
theorem meets_zipS_new (l1 l2 : Addr) (xs ys : Array Value) :
    Meets (Builtin.«zip.__new__» ⟨[.type "zip", .ref l1, .ref l2], [(Str.ofString "strict", .bool true)]⟩) (fun _ R s => s.heap.IsTuple l1 xs ∧ s.heap.IsTuple l2 ys ∧
      R (.ok (.ret (.ref (zipTH4 s.heap l1 l2).objs.size))) { s with heap := zipSH5 s.heap l1 l2 }) :=
  .of_wp fun prog w A R s h => by
    obtain ⟨hp, g, d, tk, os⟩ := s; obtain ⟨hl1, hl2, h⟩ := h
    have hsub := sub_zip
    have e1 : (Str.ofString "strict" == ("strict" : Str)) = true := by decide +kernel
    have e2 : (Str.ofString "strict" != ("strict" : Str)) = false := by decide +kernel
    have hL1 : Heap.IsTuple (Shared.heap ⟨hp, g, d, tk, os⟩) l1 xs := hl1
    have hL2 : Heap.IsTuple (Shared.heap ⟨hp.push { cls := .type "tuple_iterator", data := .fields #[.ref l1, .int 0 0] }, g, d, tk, os⟩) l2 ys := Heap.IsTuple.push hl2 _
    wp_walk using wpAny_pyIter_tuple hL1, wpAny_pyIter_tuple hL2
    exact ⟨_, rfl, h⟩
theorem typeCall_zipS (a b c : Value) : checkTypeCall "zip" ⟨[a, b], [(Str.ofString "strict", c)]⟩ = pure () := by kernel_rfl
theorem newCall_zipS (a b c : Value) : checkBuiltinCall "zip.__new__" ⟨[.type "zip", a, b], [(Str.ofString "strict", c)]⟩ = pure () := by kernel_rfl
theorem args_oi_zipS (obj a b c : Value) : argsOk "object.__init__" ⟨[obj, a, b], [(Str.ofString "strict", c)]⟩ := by unfold argsOk; kernel_rfl
section
variable {prog : Program} {w : World} {A : Around} {E : Value → Shared → Prop} {s : Shared}
theorem call_zipS {l1 l2 : Addr} {xs ys : Array Value} {Q : Value → Shared → Prop} (hl1 : s.heap.IsTuple l1 xs) (hl2 : s.heap.IsTuple l2 ys)
    (h : ∀ h', IsZipS h' (s.heap.objs.size + 4) (s.heap.objs.size + 2) (s.heap.objs.size + 3) .none → IsPair h' (s.heap.objs.size + 2) (.ref s.heap.objs.size) (.ref (s.heap.objs.size + 1)) →
      IsPair h' (s.heap.objs.size + 3) .none .none → h'.IsTupleIter s.heap.objs.size l1 0 → h'.IsTupleIter (s.heap.objs.size + 1) l2 0 → h'.objs.size = s.heap.objs.size + 5 →
      (∀ c o, s.heap.get? c = some o → h'.get? c = some o) → Q (.ref (s.heap.objs.size + 4)) { s with heap := h' }) :
    wpAny (model prog w) A (call (.type "zip") [.ref l1, .ref l2] [(Str.ofString "strict", .bool true)]) Q E s := by
  refine callType_newKw F.called_zip (by decide) (typeCall_zipS _ _ _) (newCall_zipS _ _ _) (fun obj => args_oi_zipS obj _ _ _) F.entry_zip_new
    (meets_zipS_new l1 l2 xs ys) ⟨hl1, hl2, ?_⟩
  have z1 : (zipTH1 s.heap l1).objs.size = s.heap.objs.size + 1 := Heap.size_push ..
  have z2 : (zipTH2 s.heap l1 l2).objs.size = s.heap.objs.size + 2 := by rw [Heap.size_push, z1]
  have z3 : (zipTH3 s.heap l1 l2).objs.size = s.heap.objs.size + 3 := by rw [Heap.size_push, z2]
  have z4 : (zipTH4 s.heap l1 l2).objs.size = s.heap.objs.size + 4 := by rw [Heap.size_push, z3]
  have z5 : (zipSH5 s.heap l1 l2).objs.size = s.heap.objs.size + 5 := by rw [Heap.size_push, z4]
  have g5 : (zipSH5 s.heap l1 l2).get? (zipTH4 s.heap l1 l2).objs.size = some _ := Heap.get?_push_size _ rfl
  have g4 : (zipSH5 s.heap l1 l2).get? (zipTH3 s.heap l1 l2).objs.size = some _ := Heap.get?_push_of_some _ (Heap.get?_push_size _ rfl)
  have g3 : (zipSH5 s.heap l1 l2).get? (zipTH2 s.heap l1 l2).objs.size = some _ := Heap.get?_push_of_some _ (Heap.get?_push_of_some _ (Heap.get?_push_size _ rfl))
  have g2 : (zipSH5 s.heap l1 l2).get? (zipTH1 s.heap l1).objs.size = some _ := Heap.get?_push_of_some _ (Heap.get?_push_of_some _ (Heap.get?_push_of_some _ (Heap.get?_push_size _ rfl)))
  have g1 : (zipSH5 s.heap l1 l2).get? s.heap.objs.size = some _ := Heap.get?_push_of_some _ (Heap.get?_push_of_some _ (Heap.get?_push_of_some _ (Heap.get?_push_of_some _ (Heap.get?_push_size _ rfl))))
  show _ ∧ _
  rw [z2, z3, z4] at g5
  rw [z1, z2] at g3
  rw [z3] at g4
  rw [z1] at g2
  rw [z4]
  exact ⟨⟨_, g5, rfl⟩, h _ g5 g3 g4 ⟨_, g1, rfl, rfl⟩ ⟨_, g2, rfl, rfl⟩ z5 fun c o x =>
    Heap.get?_push_of_some _ (Heap.get?_push_of_some _ (Heap.get?_push_of_some _ (Heap.get?_push_of_some _ (Heap.get?_push_of_some _ x))))⟩
end
end RZ
namespace RP
open PySem PySem.Spec PyProof.Rows L2 RZ
/-- the tuples at a and b, of one length, the items in new pairs -/
def ItzS (K : PySem.W.Frag) (a b : Addr) : It :=
  ⟨fun i H => ∃ (xs ys : List V) (x y : V), SqT K H a xs ∧ SqT K H b ys ∧ xs[i]? = some x ∧ ys[i]? = some y,
    fun i H v H' => ∃ T x y, v = .ref T ∧ H T = none ∧ H' = upd H T (.tup [x, y]) ∧ (∀ xs, SqT K H a xs → xs[i]? = some x) ∧ ∀ ys, SqT K H b ys → ys[i]? = some y,
    fun i H => ∃ xs ys : List V, SqT K H a xs ∧ SqT K H b ys ∧ xs.length ≤ i ∧ ys.length ≤ i⟩
theorem turn_zipS {P : Program} {w : World} {K : PySem.W.Frag} {elts : List Expr} {kk : Nat} {tpos : Pos} {a b z TI TO i1 i2 : Addr} (D : ZipApart z TI TO i1 i2 a b) :
    Turn P w K (.Tuple elts kk tpos) (ItzS K a b) [z, TI, TO, i1, i2] z (fun i h => IsZipS h z TI TO .none ∧ IsPair h TI (.ref i1) (.ref i2) ∧ (∃ x y, IsPair h TO x y) ∧ h.IsTupleIter i1 a i ∧ h.IsTupleIter i2 b i) where
  mem := by simp
  obj := fun i h st c hc => by
    obtain ⟨hz, hTI, ⟨x, y, hTO⟩, ⟨o1, e1, _, d1⟩, ⟨o2, e2, _, d2⟩⟩ := st
    have e' : c = z ∨ c = TI ∨ c = TO ∨ c = i1 ∨ c = i2 := by simpa using hc
    rcases e' with q | q | q | q | q
    · rw [q]; exact ⟨_, hz, fun v q => nomatch q⟩
    · rw [q]; exact ⟨_, hTI, fun v q => nomatch q⟩
    · rw [q]; exact ⟨_, hTO, fun v q => nomatch q⟩
    · rw [q]; exact ⟨o1, e1, fun v q => by rw [d1] at q; cases q⟩
    · rw [q]; exact ⟨o2, e2, fun v q => by rw [d2] at q; cases q⟩
  keep := fun i h h' st k => by
    obtain ⟨hz, hTI, ⟨x, y, hTO⟩, h1, h2⟩ := st
    exact ⟨k z (by simp) _ hz, k TI (by simp) _ hTI, ⟨x, y, k TO (by simp) _ hTO⟩, h1.at fun o q => k i1 (by simp) o q, h2.at fun o q => k i2 (by simp) o q⟩
  item := by
    intro X hP hw hK hc i pins s σ H E I hf st hg
    subst hP hw hK
    obtain ⟨hz, hTI, ⟨x0, y0, hTO⟩, h1, h2⟩ := st
    obtain ⟨xs, ys, x, y, hqx, hqy, hx, hy⟩ := hg
    obtain ⟨its, rv, p, _⟩ := I.tuple hqx
    obtain ⟨its2, rv2, p2, _⟩ := I.tuple hqy
    obtain ⟨u, hu, ru⟩ := rv.get hx
    obtain ⟨u2, hu2, ru2⟩ := rv2.get hy
    have hzl : z < s.heap.objs.size := Heap.lt_size hz
    refine pyNext_zipS_item D hz hTI hTO h1 h2 p p2 (x := u) (y := u2) (by simpa using hu) (by simpa using hu2) fun h' z' TO' h1' h2' hT hsz hk => ?_
    refine ⟨_, rfl, letGo_zipS (s := { s with heap := h' }) z' fun h'' z'' sb => ?_⟩
    have hT2 : h''.get? s.heap.objs.size = some { cls := .type "tuple", data := .seq #[u, u2] } := (sb.2 _ (Nat.ne_of_gt hzl)).trans hT
    have new : ObjOk X.prog X.w (upd H s.heap.objs.size (.tup [x, y])) h'' s.heap.objs.size (.tup [x, y]) :=
      ⟨by show 2 ≤ sizeLine; decide, [u, u2], .cons ru (.cons ru2 .nil), ⟨_, hT2, rfl, _, rfl⟩⟩
    have I1 : Inv X pins σ (upd H s.heap.objs.size (.tup [x, y])) { s with heap := h'' } :=
      I.turnedNew (t' := s.toks) (ch := [z, TI, TO, i1, i2]) (fun c o hb q => (sb.2 c (fun q' => hb (by simp [q']))).trans (hk c o (fun q' => hb (by simp [q'])) (fun q' => hb (by simp [q'])) (fun q' => hb (by simp [q'])) (fun q' => hb (by simp [q'])) q)) hf (Nat.le_refl _) new
    refine ⟨.ref s.heap.objs.size, _, I1, rfl, ⟨_, x, y, rfl, I.hok.fresh (Nat.le_refl _), rfl, fun l hl => by rw [I.tuple_inj hl hqx]; exact hx, fun l hl => by rw [I.tuple_inj hl hqy]; exact hy⟩, ⟨z'', ?_, ⟨u, u2, ?_⟩, ?_, ?_⟩, fun c hcm => ?_⟩
    · exact (sb.2 _ D.TIz).trans (hk _ _ D.TIz D.TITO D.TIi1 D.TIi2 hTI)
    · exact (sb.2 _ D.TOz).trans TO'
    · exact h1'.at fun o q => (sb.2 _ D.i1z).trans q
    · exact h2'.at fun o q => (sb.2 _ D.i2z).trans q
    · have hlt : c < s.heap.objs.size := by
        have e' : c = z ∨ c = TI ∨ c = TO ∨ c = i1 ∨ c = i2 := by simpa using hcm
        rcases e' with q | q | q | q | q
        · rw [q]; exact hzl
        · rw [q]; exact Heap.lt_size hTI
        · rw [q]; exact Heap.lt_size hTO
        · rw [q]; obtain ⟨_, e1, _⟩ := h1; exact Heap.lt_size e1
        · rw [q]; obtain ⟨_, e2, _⟩ := h2; exact Heap.lt_size e2
      rw [upd_ne (Nat.ne_of_lt hlt)]
      exact (hf c hcm).1
  done := by
    intro X hP hw hK hc i pins s σ H E I hf st hg
    subst hP hw hK
    obtain ⟨hz, hTI, ⟨x0, y0, hTO⟩, h1, h2⟩ := st
    obtain ⟨xs, ys, hqx, hqy, q1, q2⟩ := hg
    obtain ⟨its, rv, p, _⟩ := I.tuple hqx
    obtain ⟨its2, rv2, p2, _⟩ := I.tuple hqy
    have l1 := rv.length
    have l2 := rv2.length
    exact pyNext_zipS_end (I.ok.hd hc) D hz hTI hTO h1 h2 p p2 (by simp; omega) (by simp; omega) fun h' hk => ⟨rfl, I.turnedL (t' := s.toks) (ch := [z, TI, TO, i1, i2]) (fun c o hb q =>
      hk c o (fun q' => hb (by simp [q'])) (fun q' => hb (by simp [q'])) (fun q' => hb (by simp [q'])) (fun q' => hb (by simp [q'])) q) hf⟩
  self := fun A i s Q E st h => iter_zipS st.1 h
theorem callWith_kwT {M : Model} {A : Around} {E : Value → Shared → Prop} {s : Shared} {env : Env} {pos : Pos} {T : String} {e : Expr} {rest : List Expr} {kws : List Keyword} {Q : Value → Shared → Prop}
    (h : wpAny M A (spliced (backTo pos (starEach (e :: rest) env))) (fun vs s₁ => wpAny M A (evalAll ((backToKw pos (keywordEach kws env)).map (·.2)))
      (fun kvs s₂ => wpAny M A (call (.type T) vs (((backToKw pos (keywordEach kws env)).filterMap (·.1)).zip kvs)) Q E s₂) E s₁) E s)
    (he : backTo pos (starEach (e :: rest) env) = (false, eval e env) :: backTo pos (starEach rest env) := by rfl)
    (hplain : (backTo pos (starEach (e :: rest) env)).any (·.1) = false := by rfl)
    (hall : (backToKw pos (keywordEach kws env)).all (·.1.isSome) = true := by rfl)
    (hkw : (backToKw pos (keywordEach kws env)).any (·.1.isNone) = false := by rfl) :
    wpAny M A (callWith pos (.type T) [] (backTo pos (starEach (e :: rest) env)) (backToKw pos (keywordEach kws env))) Q E s := by
  have h2 : wpAny M A (evalArgs (.type T) true (backTo pos (starEach (e :: rest) env)) (backToKw pos (keywordEach kws env))) (fun a s₁ => wpAny M A (call (.type T) ([] ++ a.pos) a.kw) Q E s₁) E s := by
    rw [he] at h ⊢
    exact PyProof.Rows.evalArgs_kwB hall h
  unfold callWith
  refine wpAny_bind (wpAny_holding (wpAny_mono h2 (fun a s₁ h₁ => wpAny_bind (wpAny_standAt ?_)) fun _ _ x => x))
  simp only [hplain, hkw, Bool.or_false]
  refine wpAny_bind (wpAny_pure ?_)
  exact wpAny_bind (wpAny_mono h₁ (fun r s₂ hr => wpAny_bind (wpAny_holding (wpAny_point (wpAny_pure hr)))) fun _ _ x => x)
def iZipS (K : PySem.W.Frag) (ta tk : TA) : TI := fun σ H R => ta σ H fun vs H1 => tk σ H1 fun zs H2 => ∃ a b xs ys, vs = [.ref a, .ref b] ∧ zs = [.bl true] ∧ SqT K H2 a xs ∧ SqT K H2 b ys ∧ R (ItzS K a b) H2
theorem pi_zipS {X : Cx} {e e2 : Expr} {kws : List Keyword} {ta tk : TA} {p pos tpos : Pos} {elts : List Expr} {kk : Nat} (hg : Gl X "zip") (hm : X.mg "zip" = none) (ha : PA X [e, e2] ta) (hk : PK X kws tk)
    (he : backTo pos (starEach [e, e2] X.env) = (false, eval e X.env) :: backTo pos (starEach [e2] X.env) := by rfl) (hpl : (backTo pos (starEach [e, e2] X.env)).any (·.1) = false := by rfl)
    (hall : (backToKw pos (keywordEach kws X.env)).all (·.1.isSome) = true := by rfl) (hnone : (backToKw pos (keywordEach kws X.env)).any (·.1.isNone) = false := by rfl) (hks : (backToKw pos (keywordEach kws X.env)).filterMap (·.1) = [("strict" : Str)] := by rfl) :
    PI X (.Tuple elts kk tpos) (.Call (.Name "zip" p) [e, e2] kws pos) (iZipS X.K ta tk) := by
  refine ⟨fun pins s σ H R I h => ?_⟩
  refine wpAny_Call_Name_kw (ld_blt I hg hm PyProof.Rows.boot_zip ?_)
  refine callWith_kwT (thn (ha.run pos pins s σ H _ I h) fun us s0 ⟨vs, H0, I0, r1, q1⟩ => thn (hk.run pos pins s0 σ H0 _ I0 q1) fun ws s1 ⟨zs, H1, I1, r2, q2⟩ => ?_) he hpl hall hnone
  rw [hks]
  obtain ⟨a, b, xs, ys, ex, ez, hqx, hqy, q⟩ := q2
  subst ex ez
  cases r2 with
  | cons rz rr2 =>
    cases rr2
    cases rz
    cases r1 with
    | cons r rr =>
      cases rr with
      | cons r' rr =>
        cases rr
        cases r
        cases r'
        have fresh5 : ∀ c, c ∈ [s1.heap.objs.size + 4, s1.heap.objs.size + 2, s1.heap.objs.size + 3, s1.heap.objs.size, s1.heap.objs.size + 1] → FpOk X pins H1 c := fun c hcm => by
          have e' : c = s1.heap.objs.size + 4 ∨ c = s1.heap.objs.size + 2 ∨ c = s1.heap.objs.size + 3 ∨ c = s1.heap.objs.size ∨ c = s1.heap.objs.size + 1 := by simpa using hcm
          have hle : s1.heap.objs.size ≤ c := by omega
          exact I1.fpOk hle (I1.hok.fresh hle)
        obtain ⟨its, rv, p1, _⟩ := I1.tuple hqx
        obtain ⟨its2, rv2, p2, _⟩ := I1.tuple hqy
        obtain ⟨o1, ho1, _⟩ := id p1
        obtain ⟨o2, ho2, _⟩ := id p2
        refine call_zipS (show s1.heap.IsTuple a its.toArray from p1) (show s1.heap.IsTuple b its2.toArray from p2) fun h' hz hTI hTO h1 h2 hsz hk => iter_zipS hz ?_
        have I2 : Inv X pins σ H1 { s1 with heap := h' } := I1.kept (t' := s1.toks) hk
        exact ⟨s1.heap.objs.size + 4, [s1.heap.objs.size + 4, s1.heap.objs.size + 2, s1.heap.objs.size + 3, s1.heap.objs.size, s1.heap.objs.size + 1], _, _, H1, rfl, I2, turn_zipS (PySem.W.ktu_apart s1.heap.objs.size a b (Heap.lt_size ho1) (Heap.lt_size ho2)), ⟨hz, hTI, ⟨_, _, hTO⟩, h1, h2⟩, fresh5, q⟩
end RP
set_option maxHeartbeats 4000000
namespace RP
open PySem PySem.Spec PyProof.Rows L2
/-! ### max(xs, default=d) of whole numbers -/
def rMaxD (K : PySem.W.Frag) : List V → List V → Hp → VK → Prop := fun vs zs H Q => ∃ (a : Addr) (ns : List Int) (d : Int), vs = [V.ref a] ∧ zs = [V.int d] ∧ SqL K H a (ns.map V.int) ∧ (ns = [] → Q (.int d) H) ∧ (∀ y ys, ns = y :: ys → Q (.int (ys.foldl max y)) H)
theorem dp_ints {K : PySem.W.Frag} {H : Hp} : ∀ ns : List Int, DpAll K H (ns.map V.int) (ns.map PyData.int)
  | [] => .nil
  | n :: ns => .cons (.int n) (dp_ints ns)
theorem alike_ints (ns : List Int) : PySem.W.AlikeAll (ns.map PyData.int) := ⟨fun x hx y hy => by
  obtain ⟨a, _, rfl⟩ := List.mem_map.mp hx
  obtain ⟨b, _, rfl⟩ := List.mem_map.mp hy
  rfl, fun x hx => by
  obtain ⟨a, _, rfl⟩ := List.mem_map.mp hx
  exact fun z => by cases z⟩
theorem depth_ints : ∀ ns : List Int, PyData.depthAll (ns.map PyData.int) ≤ 1
  | [] => by simp [PyData.depthAll]
  | n :: ns => by
    have := depth_ints ns
    simp only [List.map_cons, PyData.depthAll, PyData.depth]
    omega
section
variable {X : Cx}
theorem cr_maxD (hc : X.calm = true) (hu : X.A.units + 64 < cLine) : CallRK X (.builtin "max") ["default"] (rMaxD X.K) := by
  intro pins s σ H vs zs us ws Q I r rz h
  obtain ⟨a, ns, d, rfl, rfl, hs, q0, q1⟩ := h
  obtain ⟨its, rv, hl, hz⟩ := I.list hs
  rw [Vals.ref1 r]
  obtain ⟨uz, rfl, td, rfl⟩ := vals1 rz
  obtain ⟨as, hr⟩ := Dp.readsAll I (ns.map PyData.int) (ns.map V.int) its (dp_ints ns) rv
  refine PySem.W.max_list_default (xs := ns.map PyData.int) (as := as) (I.ok.hd hc) hl.isList (by simpa using hr) (alike_ints ns) (by have := depth_ints ns; omega) (fun e h' tk k => ?_) (fun y ys i v h' tk bs e hi hrd k => ?_)
  · exact ⟨.int d, H, I.kept k, ⟨td, rfl⟩, q0 (List.map_eq_nil_iff.mp e)⟩
  · cases ns with
    | nil => cases e
    | cons n ns =>
      rw [List.map_cons] at e
      cases e
      rw [PySem.W.maxD_ints] at hrd
      cases hrd with
      | int j t => exact ⟨.int _, H, I.kept k, ⟨_, rfl⟩, q1 n ns rfl⟩
end
end RP
set_option maxHeartbeats 4000000
namespace RP
open PySem PySem.Spec PyProof.Rows L2
/-! ### what never changes -/
def fixed : List (List Str) := [["talk_told", "chooser_told", "options_told", "paces"], ["lengths", "sizes"], ["bits", "beats"], ["pieces"], ["talk_told", "chooser_told", "slow", "fast", "many_slow", "wide", "limits", "waiting"], ["rates", "begun", "whole", "plays", "stalls", "ended", "kept"], ["guard_asked", "most_watches", "order", "ways"]]
def Fix : HO → Prop
  | .tup _ => True
  | .ins _ _ fs => fs.map (·.1) ∈ fixed
  | .frz _ _ => True
  | .ext φ => ∃ h : Heap, φ h ∧ ∀ a o, h.get? a = some o → o.cls ≠ .type "dict"
  | _ => False
def Im (H H' : Hp) : Prop := ∀ b o, H b = some o → Fix o → H' b = some o
theorem Im.refl (H : Hp) : Im H H := fun _ _ h _ => h
theorem Im.of {H H' : Hp} (e : Same H H') : Im H H' := fun b o h _ => e b o h
theorem Im.trans {H H1 H2 : Hp} (a : Im H H1) (b : Im H1 H2) : Im H H2 := fun c o h f => b c o (a c o h f) f
theorem same_new {H : Hp} {p : Addr} {o : HO} (h : H p = none) : Same H (upd H p o) := fun b u e => by
  rw [upd_ne (ne_of_none e h)]
  exact e
theorem Im.put {H : Hp} {a : Addr} {o u : HO} (h : H a = some u) (n : ¬ Fix u) : Im H (upd H a o) := fun b z e f => by
  rw [upd_ne fun q => ?_]
  · exact e
  · rw [q, h] at e
    cases e
    exact n f
theorem im_t {K : PySem.W.Frag} {H H' : Hp} {a : Addr} {xs : List V} (e : Im H H') (h : SqT K H a xs) : SqT K H' a xs := by
  rcases h with (h | ⟨o, h⟩) | h
  · exact .inl (.inl (e _ _ h trivial))
  · exact .inl (.inr ⟨o, e _ _ h trivial⟩)
  · exact .inr h
/-! ### data of tuples alone -/
mutual
inductive Du (K : PySem.W.Frag) (H : Hp) : V → PyData → Prop
  | non : Du K H .non .none
  | bl (b : Bool) : Du K H (.bl b) (.bool b)
  | int (i : Int) : Du K H (.int i) (.int i)
  | str (x : Str) : Du K H (.str x) (.str x)
  | tup {a : Addr} {xs : List V} {ds : List PyData} : SqT K H a xs → Dus K H xs ds → Du K H (.ref a) (.tuple ds)
inductive Dus (K : PySem.W.Frag) (H : Hp) : List V → List PyData → Prop
  | nil : Dus K H [] []
  | cons {v : V} {vs : List V} {d : PyData} {ds : List PyData} : Du K H v d → Dus K H vs ds → Dus K H (v :: vs) (d :: ds)
end
section
variable {K : PySem.W.Frag} {H H' : Hp}
mutual
theorem Du.im (e : Im H H') : ∀ {v : V} {d : PyData}, Du K H v d → Du K H' v d
  | _, _, .non => .non
  | _, _, .bl b => .bl b
  | _, _, .int i => .int i
  | _, _, .str x => .str x
  | _, _, .tup h t => .tup (im_t e h) (Dus.im e t)
theorem Dus.im (e : Im H H') : ∀ {vs : List V} {ds : List PyData}, Dus K H vs ds → Dus K H' vs ds
  | _, _, .nil => .nil
  | _, _, .cons h t => .cons (Du.im e h) (Dus.im e t)
end
mutual
theorem Du.dp : ∀ {v : V} {d : PyData}, Du K H v d → Dp K H v d
  | _, _, .non => .non
  | _, _, .bl b => .bl b
  | _, _, .int i => .int i
  | _, _, .str x => .str x
  | _, _, .tup h t => .tup h (Dus.dp t)
theorem Dus.dp : ∀ {vs : List V} {ds : List PyData}, Dus K H vs ds → DpAll K H vs ds
  | _, _, .nil => .nil
  | _, _, .cons h t => .cons (Du.dp h) (Dus.dp t)
end
theorem Dus.len : ∀ {vs : List V} {ds : List PyData}, Dus K H vs ds → vs.length = ds.length
  | _, _, .nil => rfl
  | _, _, .cons _ t => congrArg Nat.succ (Dus.len t)
theorem Dus.get : ∀ {vs : List V} {ds : List PyData} {i : Nat} {d : PyData}, Dus K H vs ds → ds[i]? = some d → ∃ v, vs[i]? = some v ∧ Du K H v d
  | _, _, _, _, .nil, e => by simp at e
  | _, _, 0, _, .cons h _, e => by simp at e; subst e; exact ⟨_, rfl, h⟩
  | _, _, i + 1, d, .cons _ t, e => by
    obtain ⟨v, h1, h2⟩ := Dus.get (i := i) (d := d) t (by simpa using e)
    exact ⟨v, by simpa using h1, h2⟩
theorem Dus.get' : ∀ {vs : List V} {ds : List PyData} {i : Nat} {v : V}, Dus K H vs ds → vs[i]? = some v → ∃ d, ds[i]? = some d ∧ Du K H v d
  | _, _, _, _, .nil, e => by simp at e
  | _, _, 0, _, .cons h _, e => by simp at e; subst e; exact ⟨_, rfl, h⟩
  | _, _, i + 1, v, .cons _ t, e => by
    obtain ⟨d, h1, h2⟩ := Dus.get' (i := i) (v := v) t (by simpa using e)
    exact ⟨d, by simpa using h1, h2⟩
theorem Dus.append : ∀ {vs ws : List V} {ds es : List PyData}, Dus K H vs ds → Dus K H ws es → Dus K H (vs ++ ws) (ds ++ es)
  | _, _, _, _, .nil, s => s
  | _, _, _, _, .cons h t, s => .cons h (Dus.append t s)
theorem Dus.take : ∀ {vs : List V} {ds : List PyData} (n : Nat), Dus K H vs ds → Dus K H (vs.take n) (ds.take n)
  | _, _, 0, _ => .nil
  | _, _, _ + 1, .nil => .nil
  | _, _, n + 1, .cons h t => .cons h (Dus.take n t)
theorem Dus.drop : ∀ {vs : List V} {ds : List PyData} (n : Nat), Dus K H vs ds → Dus K H (vs.drop n) (ds.drop n)
  | _, _, 0, h => h
  | _, _, _ + 1, .nil => .nil
  | _, _, n + 1, .cons _ t => Dus.drop n t
theorem Du.int_inv {v : V} {i : Int} (h : Du K H v (.int i)) : v = .int i := by cases h; rfl
theorem Du.bl_inv {v : V} {b : Bool} (h : Du K H v (.bool b)) : v = .bl b := by cases h; rfl
theorem Du.non_inv {v : V} (h : Du K H v .none) : v = .non := by cases h; rfl
theorem Du.str_inv {v : V} {x : Str} (h : Du K H v (.str x)) : v = .str x := by cases h; rfl
theorem Du.tup_inv {v : V} {ds : List PyData} (h : Du K H v (.tuple ds)) : ∃ a xs, v = .ref a ∧ SqT K H a xs ∧ Dus K H xs ds := by
  cases h with
  | tup h t => exact ⟨_, _, rfl, h, t⟩
theorem Dus.ints : ∀ {vs : List V} {ns : List Int}, Dus K H vs (ns.map .int) → vs = ns.map V.int
  | _, [], .nil => rfl
  | _, _ :: _, .cons h t => by rw [Du.int_inv h, Dus.ints t]; rfl
theorem Dus.of_ints : ∀ (ns : List Int), Dus K H (ns.map V.int) (ns.map .int)
  | [] => .nil
  | n :: ns => .cons (.int n) (Dus.of_ints ns)
theorem Dus.bools : ∀ {vs : List V} {ns : List Bool}, Dus K H vs (ns.map .bool) → vs = ns.map V.bl
  | _, [], .nil => rfl
  | _, _ :: _, .cons h t => by rw [Du.bl_inv h, Dus.bools t]; rfl
end
/-! ### what a value is -/
structure Ty where
  p : V → Hp → Prop
  up : ∀ {v : V} {H H' : Hp}, Same H H' → p v H → p v H'
def Ty.Fx (P : Ty) : Prop := ∀ {v : V} {H H' : Hp}, Im H H' → P.p v H → P.p v H'
/-- data -/
def tD (K : PySem.W.Frag) (d : PyData) : Ty := ⟨fun v H => Du K H v d, fun e h => h.im (.of e)⟩
theorem tD_fx {K : PySem.W.Frag} {d : PyData} : (tD K d).Fx := fun e h => Du.im e h
/-- this very value -/
def tV (x : V) : Ty := ⟨fun v _ => v = x, fun _ h => h⟩
theorem tV_fx {x : V} : (tV x).Fx := fun _ h => h
/-- a list of data -/
def tL (K : PySem.W.Frag) (ds : List PyData) : Ty := ⟨fun v H => ∃ a xs, v = .ref a ∧ SqL K H a xs ∧ Dus K H xs ds, fun e h => let ⟨a, xs, h1, h2, h3⟩ := h; ⟨a, xs, h1, e.seq h2, h3.im (.of e)⟩⟩
/-- an instance: its fields, each what -/
inductive Flds (H : Hp) : List (Str × V) → List (Str × Ty) → Prop
  | nil : Flds H [] []
  | cons {f : Str} {v : V} {P : Ty} {fs : List (Str × V)} {ts : List (Str × Ty)} : P.p v H → Flds H fs ts → Flds H ((f, v) :: fs) ((f, P) :: ts)
theorem Flds.up {H H' : Hp} (e : Same H H') : ∀ {fs : List (Str × V)} {ts : List (Str × Ty)}, Flds H fs ts → Flds H' fs ts
  | _, _, .nil => .nil
  | _, _, .cons (P := P) h t => .cons (P.up e h) (Flds.up e t)
theorem Flds.im {H H' : Hp} (e : Im H H') : ∀ {fs : List (Str × V)} {ts : List (Str × Ty)}, (∀ q ∈ ts, q.2.Fx) → Flds H fs ts → Flds H' fs ts
  | _, _, _, .nil => .nil
  | _, _, a, .cons h t => .cons (a _ (List.mem_cons_self ..) e h) (Flds.im e (fun q hq => a q (List.mem_cons_of_mem _ hq)) t)
theorem Flds.names {H : Hp} : ∀ {fs : List (Str × V)} {ts : List (Str × Ty)}, Flds H fs ts → fs.map (·.1) = ts.map (·.1)
  | _, _, .nil => rfl
  | _, _, .cons _ t => by rw [List.map_cons, List.map_cons, Flds.names t]
theorem Flds.look {H : Hp} : ∀ {fs : List (Str × V)} {ts : List (Str × Ty)} {f : Str} {P : Ty}, Flds H fs ts → ts.lookup f = some P → ∃ v, fs.lookup f = some v ∧ P.p v H
  | _, _, f, P, .cons (f := g) (P := P') (v := v) h t, e => by
    by_cases q : (f == g) = true
    · rw [List.lookup_cons, q] at e
      cases e
      exact ⟨v, by rw [List.lookup_cons, q], h⟩
    · have q' : (f == g) = false := by simpa using q
      rw [List.lookup_cons, q'] at e
      obtain ⟨v', h1, h2⟩ := Flds.look (f := f) (P := P) t e
      exact ⟨v', by rw [List.lookup_cons, q']; exact h1, h2⟩
theorem Flds.none {H : Hp} : ∀ {fs : List (Str × V)} {ts : List (Str × Ty)} {f : Str}, Flds H fs ts → ts.lookup f = none → fs.lookup f = none
  | _, _, _, .nil, _ => rfl
  | _, _, f, .cons (f := g) h t, e => by
    by_cases q : (f == g) = true
    · rw [List.lookup_cons, q] at e
      cases e
    · have q' : (f == g) = false := by simpa using q
      rw [List.lookup_cons, q'] at e ⊢
      exact Flds.none t e
def tO (C : Addr) (ts : List (Str × Ty)) : Ty := ⟨fun v H => ∃ a dx fs, v = .ref a ∧ H a = some (.ins C dx fs) ∧ Flds H fs ts, fun e h => let ⟨a, dx, fs, h1, h2, h3⟩ := h; ⟨a, dx, fs, h1, e _ _ h2, h3.up e⟩⟩
theorem tO_fx {C : Addr} {ts : List (Str × Ty)} (hn : ts.map (·.1) ∈ fixed) (a : ∀ q ∈ ts, q.2.Fx) : (tO C ts).Fx := fun {v H H'} e h => by
  obtain ⟨a', dx, fs, h1, h2, h3⟩ := h
  exact ⟨a', dx, fs, h1, e _ _ h2 (by show fs.map (·.1) ∈ fixed; rw [h3.names]; exact hn), h3.im e a⟩
/-! ### names and what they hold -/
abbrev Ctx := List (Option Ty)
structure Sat (Γ : Ctx) (σ : L2.St) (H : Hp) : Prop where
  len : σ.length = Γ.length
  at_ : ∀ (i : Nat) (P : Ty), Γ[i]? = some (some P) → ∃ v, σ[i]? = some (some v) ∧ P.p v H
theorem Sat.up {Γ : Ctx} {σ : L2.St} {H H' : Hp} (s : Sat Γ σ H) (e : Same H H') : Sat Γ σ H' := ⟨s.len, fun i P h => let ⟨v, h1, h2⟩ := s.at_ i P h; ⟨v, h1, P.up e h2⟩⟩
theorem Sat.set {Γ : Ctx} {σ : L2.St} {H : Hp} {P : Ty} {v : V} (s : Sat Γ σ H) (i : Nat) (h : P.p v H) : Sat (Γ.set i (some P)) (σ.set i (some v)) H := by
  refine ⟨by rw [List.length_set, List.length_set, s.len], fun j R hj => ?_⟩
  rw [List.getElem?_set] at hj ⊢
  by_cases q : i = j
  · rw [if_pos q] at hj ⊢
    by_cases l : i < Γ.length
    · rw [if_pos l] at hj
      rw [if_pos (s.len ▸ l)]
      cases hj
      exact ⟨v, rfl, h⟩
    · rw [if_neg l] at hj
      cases hj
  · rw [if_neg q] at hj ⊢
    exact s.at_ j R hj
theorem Sat.fx {Γ : Ctx} {σ : L2.St} {H H' : Hp} (s : Sat Γ σ H) (e : Im H H') (a : ∀ P, some P ∈ Γ → P.Fx) : Sat Γ σ H' := ⟨s.len, fun i P h => let ⟨v, h1, h2⟩ := s.at_ i P h; ⟨v, h1, a P (List.mem_of_getElem? h) e h2⟩⟩
/-- fewer claims -/
theorem Sat.sub {Γ Γ' : Ctx} {σ : L2.St} {H : Hp} (s : Sat Γ σ H) (hl : Γ.length = Γ'.length) (h : ∀ (i : Nat) (P : Ty), Γ'[i]? = some (some P) → Γ[i]? = some (some P)) : Sat Γ' σ H := ⟨s.len.trans hl, fun i P e => s.at_ i P (h i P e)⟩
/-! ### what an expression gives -/
def Gv (Γ : Ctx) (te : TE) (P : Ty) : Prop := ∀ (σ : L2.St) (H : Hp) (Q : VK), Sat Γ σ H → (∀ v H', Same H H' → P.p v H' → Q v H') → te σ H Q
inductive Pv (H : Hp) : List Ty → List V → Prop
  | nil : Pv H [] []
  | cons {P : Ty} {Ps : List Ty} {v : V} {vs : List V} : P.p v H → Pv H Ps vs → Pv H (P :: Ps) (v :: vs)
theorem Pv.up {H H' : Hp} (e : Same H H') : ∀ {Ps : List Ty} {vs : List V}, Pv H Ps vs → Pv H' Ps vs
  | _, _, .nil => .nil
  | _, _, .cons (P := P) h t => .cons (P.up e h) (Pv.up e t)
theorem Pv.len {H : Hp} : ∀ {Ps : List Ty} {vs : List V}, Pv H Ps vs → vs.length = Ps.length
  | _, _, .nil => rfl
  | _, _, .cons _ t => congrArg Nat.succ (Pv.len t)
theorem Pv.app {H : Hp} : ∀ {Ps Rs : List Ty} {vs ws : List V}, Pv H Ps vs → Pv H Rs ws → Pv H (Ps ++ Rs) (vs ++ ws)
  | _, _, _, _, .nil, s => s
  | _, _, _, _, .cons h t, s => .cons h (Pv.app t s)
def Ga (Γ : Ctx) (ta : TA) (Ps : List Ty) : Prop := ∀ (σ : L2.St) (H : Hp) (Q : List V → Hp → Prop), Sat Γ σ H → (∀ vs H', Same H H' → Pv H' Ps vs → Q vs H') → ta σ H Q
def Gb (Γ : Ctx) (tt : TT) (b : Bool) : Prop := ∀ (σ : L2.St) (H : Hp) (Q : Bool → Hp → Prop), Sat Γ σ H → (∀ H', Same H H' → Q b H') → tt σ H Q
/-- a two-place operation -/
def G2 (r : R2) (A B P : Ty) : Prop := ∀ (x y : V) (H : Hp) (Q : VK), A.p x H → B.p y H → (∀ v H', Same H H' → P.p v H' → Q v H') → r x y H Q
/-- a call -/
def Gc (r : List V → Hp → VK → Prop) (Ps : List Ty) (P : Ty) : Prop := ∀ (vs : List V) (H : Hp) (Q : VK), Pv H Ps vs → (∀ v H', Same H H' → P.p v H' → Q v H') → r vs H Q
section
variable {K : PySem.W.Frag} {Γ : Ctx} {ta tb tc te : TE} {ts : TA} {P A B P' : Ty} {Ps : List Ty}
theorem Gv.to (h : Gv Γ te P) (k : ∀ v H, P.p v H → P'.p v H) : Gv Γ te P' := fun σ H Q s q => h σ H Q s fun v H' e hv => q v H' e (k v H' hv)
theorem Gv.eq {d d' : PyData} (h : Gv Γ te (tD K d)) (e : d = d') : Gv Γ te (tD K d') := e ▸ h
theorem Gb.eq {tt : TT} {b b' : Bool} (h : Gb Γ tt b) (e : b = b') : Gb Γ tt b' := e ▸ h
theorem gv_var {i : Nat} (h : Γ[i]? = some (some P)) : Gv Γ (tVar i) P := fun σ H Q s q => let ⟨v, h1, h2⟩ := s.at_ i P h; ⟨v, h1, q v H (.refl H) h2⟩
theorem gv_c {v : V} (h : ∀ H, P.p v H) : Gv Γ (tC v) P := fun σ H Q s q => q v H (.refl H) (h H)
theorem gv_int {i : Int} : Gv Γ (tC (.int i)) (tD K (.int i)) := gv_c fun _ => .int i
theorem gv_bl {b : Bool} : Gv Γ (tC (.bl b)) (tD K (.bool b)) := gv_c fun _ => .bl b
theorem gv_non : Gv Γ (tC .non) (tD K .none) := gv_c fun _ => .non
theorem gv_str {x : Str} : Gv Γ (tC (.str x)) (tD K (.str x)) := gv_c fun _ => .str x
theorem gv_op {r : R2} (ha : Gv Γ ta A) (hb : Gv Γ tb B) (hr : G2 r A B P) : Gv Γ (tOp r ta tb) P := fun σ H Q s q =>
  ha σ H _ s fun x H1 e1 hx => hb σ H1 _ (s.up e1) fun y H2 e2 hy => hr x y H2 Q (A.up e2 hx) hy fun v H3 e3 hv => q v H3 ((e1.trans e2).trans e3) hv
theorem ga_nil : Ga Γ tNil [] := fun σ H Q s q => q [] H (.refl H) .nil
theorem ga_cons (ha : Gv Γ ta A) (hs : Ga Γ ts Ps) : Ga Γ (tCons ta ts) (A :: Ps) := fun σ H Q s q =>
  ha σ H _ s fun x H1 e1 hx => hs σ H1 _ (s.up e1) fun xs H2 e2 hxs => q (x :: xs) H2 (e1.trans e2) (.cons (A.up e2 hx) hxs)
theorem gv_cb {r : List V → Hp → VK → Prop} (hs : Ga Γ ts Ps) (hr : Gc r Ps P) : Gv Γ (tCB r ts) P := fun σ H Q s q =>
  hs σ H _ s fun vs H1 e1 h1 => hr vs H1 Q h1 fun v H2 e2 hv => q v H2 (e1.trans e2) hv
/-- a tuple of data -/
inductive AreD (K : PySem.W.Frag) : List Ty → List PyData → Prop
  | nil : AreD K [] []
  | cons {d : PyData} {Ps : List Ty} {ds : List PyData} : AreD K Ps ds → AreD K (tD K d :: Ps) (d :: ds)
theorem AreD.dus {H : Hp} : ∀ {Ps : List Ty} {ds : List PyData} {vs : List V}, AreD K Ps ds → Pv H Ps vs → Dus K H vs ds
  | _, _, _, .nil, .nil => .nil
  | _, _, _, .cons t, .cons h r => .cons h (AreD.dus t r)
theorem gv_tup {ds : List PyData} (hs : Ga Γ ts Ps) (hd : AreD K Ps ds) (hl : ds.length ≤ sizeLine) : Gv Γ (tTup ts) (tD K (.tuple ds)) := fun σ H Q s q =>
  hs σ H _ s fun vs H1 e1 h1 => ⟨by rw [(hd.dus h1).len]; exact hl, fun p hp => q _ _ (e1.trans (same_new hp)) (.tup (SqT.of upd_same) ((hd.dus h1).im (.of (same_new hp))))⟩
theorem gv_if {tt : TT} {b : Bool} (hc : Gb Γ tt b) (h1 : b = true → Gv Γ ta P) (h2 : b = false → Gv Γ tb P) : Gv Γ (tIf tt ta tb) P := fun σ H Q s q => hc σ H _ s fun H1 e1 => by
  cases b with
  | true => exact h1 rfl σ H1 Q (s.up e1) fun v H' e hv => q v H' (e1.trans e) hv
  | false => exact h2 rfl σ H1 Q (s.up e1) fun v H' e hv => q v H' (e1.trans e) hv
/-- a field -/
theorem gv_fld {C : Addr} {f : Str} {fs : List (Str × Ty)} (ho : Gv Γ ta (tO C fs)) (hc : Cls K C) (hn : NoAttr K C f) (hl : fs.lookup f = some P) : Gv Γ (tFld K ta f) P := fun σ H Q s q =>
  ho σ H _ s fun x H1 e1 hx => by
    obtain ⟨a, dx, vs, h1, h2, h3⟩ := hx
    obtain ⟨v, h4, h5⟩ := h3.look hl
    exact ⟨a, C, dx, vs, v, h1, h2, hc, hn, h4, q v H1 e1 h5⟩
/-! whole numbers, truths -/
theorem g2_I0 {g : Int → Int → V} {i j : Int} (h : ∀ H, P.p (g i j) H) : G2 (rI0 g) (tD K (.int i)) (tD K (.int j)) P := fun x y H Q hx hy q => ⟨i, j, Du.int_inv hx, Du.int_inv hy, q _ H (.refl H) (h H)⟩
theorem g2_I {C : Int → Int → Prop} {g : Int → Int → V} {i j : Int} (hc : C i j) (h : ∀ H, P.p (g i j) H) : G2 (rI C g) (tD K (.int i)) (tD K (.int j)) P := fun x y H Q hx hy q => ⟨i, j, Du.int_inv hx, Du.int_inv hy, hc, q _ H (.refl H) (h H)⟩
theorem gv_i0 {g : Int → Int → Int} {i j : Int} (ha : Gv Γ ta (tD K (.int i))) (hb : Gv Γ tb (tD K (.int j))) : Gv Γ (tOp (rI0 fun i j => .int (g i j)) ta tb) (tD K (.int (g i j))) := gv_op ha hb (g2_I0 fun _ => .int _)
theorem gv_b0 {g : Int → Int → Bool} {i j : Int} (ha : Gv Γ ta (tD K (.int i))) (hb : Gv Γ tb (tD K (.int j))) : Gv Γ (tOp (rI0 fun i j => .bl (g i j)) ta tb) (tD K (.bool (g i j))) := gv_op ha hb (g2_I0 fun _ => .bl _)
theorem gv_i1 {C : Int → Int → Prop} {g : Int → Int → Int} {i j : Int} (ha : Gv Γ ta (tD K (.int i))) (hb : Gv Γ tb (tD K (.int j))) (hc : C i j) : Gv Γ (tOp (rI C fun i j => .int (g i j)) ta tb) (tD K (.int (g i j))) := gv_op ha hb (g2_I hc fun _ => .int _)
theorem gv_eqI {i j : Int} (ha : Gv Γ ta (tD K (.int i))) (hb : Gv Γ tb (tD K (.int j))) : Gv Γ (tOp rEq ta tb) (tD K (.bool (decide (i = j)))) := gv_op ha hb fun x y H Q hx hy q => by
  rw [Du.int_inv hx, Du.int_inv hy]
  refine ⟨rfl, q _ H (.refl H) ?_⟩
  have e : decide (V.int i = V.int j) = decide (i = j) := decide_eq_decide.mpr ⟨fun z => V.int.inj z, fun z => by rw [z]⟩
  rw [e]
  exact .bl _
theorem gv_neI {i j : Int} (ha : Gv Γ ta (tD K (.int i))) (hb : Gv Γ tb (tD K (.int j))) : Gv Γ (tOp rNe ta tb) (tD K (.bool (!decide (i = j)))) := gv_op ha hb fun x y H Q hx hy q => by
  rw [Du.int_inv hx, Du.int_inv hy]
  refine ⟨rfl, q _ H (.refl H) ?_⟩
  have e : decide (V.int i = V.int j) = decide (i = j) := decide_eq_decide.mpr ⟨fun z => V.int.inj z, fun z => by rw [z]⟩
  rw [e]
  exact .bl _
def isNone : PyData → Bool
  | .none => true
  | _ => false
theorem Du.isN {H : Hp} {v : V} {d : PyData} (h : Du K H v d) : decide (v = .non) = isNone d := by
  cases h <;> simp [isNone]
theorem gv_isN {r : R2} (hr : r = fun x y H Q => y = .non ∧ Q (.bl (decide (x = .non))) H := by rfl) {d : PyData} (ha : Gv Γ ta (tD K d)) (hb : Gv Γ tb (tD K .none)) : Gv Γ (tOp r ta tb) (tD K (.bool (isNone d))) := gv_op ha hb fun x y H Q hx hy q => by
  subst hr
  refine ⟨Du.non_inv hy, q _ H (.refl H) ?_⟩
  rw [hx.isN]
  exact .bl _
theorem gv_notN {r : R2} (hr : r = fun x y H Q => y = .non ∧ Q (.bl (!decide (x = .non))) H := by rfl) {d : PyData} (ha : Gv Γ ta (tD K d)) (hb : Gv Γ tb (tD K .none)) : Gv Γ (tOp r ta tb) (tD K (.bool (!isNone d))) := gv_op ha hb fun x y H Q hx hy q => by
  subst hr
  refine ⟨Du.non_inv hy, q _ H (.refl H) ?_⟩
  rw [hx.isN]
  exact .bl _
theorem gv_neg {i : Int} (ha : Gv Γ ta (tD K (.int i))) : Gv Γ (tUn (rU fun i => .int (-i)) ta) (tD K (.int (-i))) := fun σ H Q s q => ha σ H _ s fun x H1 e hx => ⟨i, Du.int_inv hx, q _ H1 e (.int _)⟩
theorem gv_chain {r r' : R2} {b b' : Bool} (ha : Gv Γ ta A) (hb : Gv Γ tb B) (hr : G2 r A B (tD K (.bool b))) (hc : b = true → Gv Γ tc P) (hr' : b = true → G2 r' B P (tD K (.bool b'))) : Gv Γ (tChain r r' ta tb tc) (tD K (.bool (b && b'))) := fun σ H Q s q =>
  ha σ H _ s fun x H1 e1 hx => hb σ H1 _ (s.up e1) fun y H2 e2 hy => hr x y H2 _ (A.up e2 hx) hy fun z H3 e3 hz => ⟨b, Du.bl_inv hz, by
    cases b with
    | false => exact iteF (q _ H3 ((e1.trans e2).trans e3) (.bl _))
    | true => exact iteT (hc rfl σ H3 _ (((s.up e1).up e2).up e3) fun c H4 e4 hcv => hr' rfl y c H4 Q (B.up e4 (B.up e3 hy)) hcv fun v H5 e5 hv => q v H5 ((((e1.trans e2).trans e3).trans e4).trans e5) (by
        have e : (true && b') = b' := by simp
        rw [e]
        exact hv))⟩
/-! tests -/
theorem gb_val {b : Bool} (h : Gv Γ te (tD K (.bool b))) : Gb Γ (tTest te) b := fun σ H Q s q => h σ H _ s fun v H' e hv => ⟨b, Du.bl_inv hv, q H' e⟩
theorem gb_b {b : Bool} (h : Gv Γ te (tD K (.bool b))) : Gb Γ (tB te) b := fun σ H Q s q => h σ H _ s fun v H' e hv => ⟨b, Du.bl_inv hv, q H' e⟩
theorem gb_not {t : TT} {b : Bool} (h : Gb Γ t b) : Gb Γ (tNot t) (!b) := fun σ H Q s q => h σ H _ s fun H' e => q H' e
theorem gb_and {t u : TT} {b c : Bool} (h : Gb Γ t b) (k : b = true → Gb Γ u c) : Gb Γ (tAnd t u) (b && c) := fun σ H Q s q => h σ H _ s fun H' e => by
  cases b with
  | false => exact iteF (q H' e)
  | true => exact iteT (k rfl σ H' Q (s.up e) fun H2 e2 => by
      have z := q H2 (e.trans e2)
      simpa using z)
theorem gb_or {t u : TT} {b c : Bool} (h : Gb Γ t b) (k : b = false → Gb Γ u c) : Gb Γ (tOr t u) (b || c) := fun σ H Q s q => h σ H _ s fun H' e => by
  cases b with
  | true => exact iteT (q H' e)
  | false => exact iteF (k rfl σ H' Q (s.up e) fun H2 e2 => by
      have z := q H2 (e.trans e2)
      simpa using z)
theorem gv_and {b c : Bool} (h : Gv Γ ta (tD K (.bool b))) (k : b = true → Gv Γ tb (tD K (.bool c))) : Gv Γ (tAndV ta tb) (tD K (.bool (b && c))) := fun σ H Q s q => h σ H _ s fun v H' e hv => ⟨b, Du.bl_inv hv, by
  cases b with
  | false => exact iteF (q _ H' e (.bl _))
  | true => exact iteT (k rfl σ H' Q (s.up e) fun v2 H2 e2 h2 => q v2 H2 (e.trans e2) (by
      have z : (true && c) = c := by simp
      rw [z]
      exact h2))⟩
theorem gv_or {b c : Bool} (h : Gv Γ ta (tD K (.bool b))) (k : b = false → Gv Γ tb (tD K (.bool c))) : Gv Γ (tOrV ta tb) (tD K (.bool (b || c))) := fun σ H Q s q => h σ H _ s fun v H' e hv => ⟨b, Du.bl_inv hv, by
  cases b with
  | true => exact iteT (q _ H' e (.bl _))
  | false => exact iteF (k rfl σ H' Q (s.up e) fun v2 H2 e2 h2 => q v2 H2 (e.trans e2) (by
      have z : (false || c) = c := by simp
      rw [z]
      exact h2))⟩
theorem gv_not {b : Bool} (h : Gv Γ ta (tD K (.bool b))) : Gv Γ (tNotV ta) (tD K (.bool (!b))) := fun σ H Q s q => h σ H _ s fun v H' e hv => ⟨b, Du.bl_inv hv, q _ H' e (.bl _)⟩
end
end RP
set_option maxHeartbeats 4000000
namespace RP
open PySem PySem.Spec PyProof.Rows L2
/-! ### what is known of the heap; statements -/
structure Hm where
  p : Hp → Prop
  up : ∀ {H H' : Hp}, Same H H' → p H → p H'
/-- all of H0 stands -/
def Hm.of (H0 : Hp) : Hm := ⟨fun H => Same H0 H, fun e h => h.trans e⟩
def Nx (M : Hm) (Γ : Ctx) (k : L2.St → Hp → Prop) : Prop := ∀ σ H, M.p H → Sat Γ σ H → k σ H
def Go (M : Hm) (Γ : Ctx) (D : Ends) (ts : TS) : Prop := ∀ σ H, M.p H → Sat Γ σ H → ts D σ H
/-- what is given back is an R -/
def Rt (R : Ty) (M : Hm) (D : Ends) : Prop := ∀ v H, M.p H → R.p v H → D.rt v H
/-- a target -/
def Gt (Γ : Ctx) (g : TG) (P : Ty) (Γ' : Ctx) : Prop := ∀ (v : V) (σ : L2.St) (H : Hp) (Q : L2.St → Hp → Prop), Sat Γ σ H → P.p v H → (∀ σ' H', Same H H' → Sat Γ' σ' H' → Q σ' H') → g v σ H Q
def Gts (Γ : Ctx) (g : TGs) (Ps : List Ty) (Γ' : Ctx) : Prop := ∀ (vs : List V) (σ : L2.St) (H : Hp) (Q : L2.St → Hp → Prop), Sat Γ σ H → Pv H Ps vs → (∀ σ' H', Same H H' → Sat Γ' σ' H' → Q σ' H') → g vs σ H Q
section
variable {K : PySem.W.Frag} {Γ Γ1 Γ2 : Ctx} {M : Hm} {D : Ends} {t u : TS} {te tv : TE} {P R : Ty} {g : TG} {gs : TGs} {Ps : List Ty}
theorem gt_name {i : Nat} : Gt Γ (gName i) P (Γ.set i (some P)) := fun v σ H Q s h q => q _ H (.refl H) (s.set i h)
theorem gts_nil : Gts Γ gNil [] Γ := fun vs σ H Q s h q => by
  cases h
  exact ⟨rfl, q σ H (.refl H) s⟩
theorem gts_cons (h1 : Gt Γ g P Γ1) (h2 : Gts Γ1 gs Ps Γ2) : Gts Γ (gCons g gs) (P :: Ps) Γ2 := fun vs σ H Q s h q => by
  cases h with
  | cons h t => exact ⟨_, _, rfl, h1 _ σ H _ s h fun σ1 H1 e1 s1 => h2 _ σ1 H1 Q s1 (t.up e1) fun σ2 H2 e2 s2 => q σ2 H2 (e1.trans e2) s2⟩
theorem pv_data {H : Hp} : ∀ {ds : List PyData} {vs : List V}, Dus K H vs ds → Pv H (ds.map (tD K)) vs
  | _, _, .nil => .nil
  | _, _, .cons h t => .cons h (pv_data t)
theorem gt_tup {ds : List PyData} {n : Nat} (h : Gts Γ gs (ds.map (tD K)) Γ1) (hn : ds.length = n) : Gt Γ (gTup K n gs) (tD K (.tuple ds)) Γ1 := fun v σ H Q s hv q => by
  obtain ⟨a, xs, e, h1, h2⟩ := hv.tup_inv
  exact ⟨a, xs, e, h1, h2.len.trans hn, h xs σ H Q s (pv_data h2) q⟩
theorem gt_star {first mids lasts : List PyData} {n i : Nat} (h : Gts Γ gs (first.map (tD K) ++ tL K mids :: lasts.map (tD K)) Γ1) (hi : first.length = i) (hn : i + 1 + lasts.length = n) (hl : (first ++ mids ++ lasts).length ≤ 16384) : Gt Γ (gStar K n i gs) (tD K (.tuple (first ++ mids ++ lasts))) Γ1 := fun v σ H Q s hv q => by
  obtain ⟨a, xs, e, h1, h2⟩ := hv.tup_inv
  have l := h2.len
  refine ⟨a, xs, xs.take i, (xs.drop i).take mids.length, (xs.drop i).drop mids.length, e, h1, ?_, ?_, ?_, ?_, fun Dl hD => ?_⟩
  · rw [List.append_assoc, List.take_append_drop, List.take_append_drop]
  · rw [List.length_take]
    simp only [List.length_append] at l
    omega
  · rw [List.length_drop, List.length_drop]
    simp only [List.length_append] at l
    omega
  · rw [l]
    exact hl
  · have e0 : (first ++ mids ++ lasts).take i = first := by rw [List.append_assoc]; exact List.take_left' hi
    have e1 : (first ++ mids ++ lasts).drop i = mids ++ lasts := by rw [List.append_assoc]; exact List.drop_left' hi
    have d0 : Dus K H (xs.take i) first := by
      have z := h2.take i
      rw [e0] at z
      exact z
    have d1 : Dus K H ((xs.drop i).take mids.length) mids := by
      have z := (h2.drop i).take mids.length
      rw [e1, List.take_left' rfl] at z
      exact z
    have d2 : Dus K H ((xs.drop i).drop mids.length) lasts := by
      have z := (h2.drop i).drop mids.length
      rw [e1, List.drop_left' rfl] at z
      exact z
    have e : Same H (upd H Dl (.lst ((xs.drop i).take mids.length))) := same_new hD
    rw [List.append_assoc]
    refine h _ σ _ Q (s.up e) ((pv_data (d0.im (.of e))).app ?_) fun σ' H' e' s' => q σ' H' (e.trans e') s'
    exact .cons ⟨Dl, _, rfl, SqL.of upd_same, d1.im (.of e)⟩ (pv_data (d2.im (.of e)))
theorem go_seq (h : Go M Γ { D with nx := u D } t) : Go M Γ D (tSeq t u) := h
theorem go_next (h : Nx M Γ D.nx) : Go M Γ D tNext := h
theorem go_asg (he : Gv Γ te P) (hg : Gt Γ g P Γ1) (k : Nx M Γ1 D.nx) : Go M Γ D (tAsg te g) := fun σ H m s =>
  he σ H _ s fun v H1 e1 hv => hg v σ H1 _ (s.up e1) hv fun σ2 H2 e2 s2 => k σ2 H2 (M.up e2 (M.up e1 m)) s2
theorem q_asg (he : Gv Γ te P) (hg : Gt Γ g P Γ1) (k : Go M Γ1 D u) : Go M Γ D (tSeq (tAsg te g) u) := go_asg (D := { D with nx := u D }) he hg k
theorem q_set {i : Nat} (he : Gv Γ te P) (k : Go M (Γ.set i (some P)) D u) : Go M Γ D (tSeq (tAsg te (gName i)) u) := q_asg he gt_name k
theorem go_ret (he : Gv Γ te P) (r : Rt R M D) (k : ∀ v H, P.p v H → R.p v H) : Go M Γ D (tRet te) := fun σ H m s => he σ H _ s fun v H1 e1 hv => r v H1 (M.up e1 m) (k v H1 hv)
theorem go_retD {d d' : PyData} (r : Rt (tD K d') M D) (he : Gv Γ te (tD K d)) (e : d = d') : Go M Γ D (tRet te) := go_ret he r fun v H h => e ▸ h
theorem go_if {c : TT} {b : Bool} (hc : Gb Γ c b) (h1 : b = true → Go M Γ D t) (h2 : b = false → Go M Γ D u) : Go M Γ D (tIfS c t u) := fun σ H m s => hc σ H _ s fun H1 e1 => by
  cases b with
  | true => exact iteT (h1 rfl σ H1 (M.up e1 m) (s.up e1))
  | false => exact iteF (h2 rfl σ H1 (M.up e1 m) (s.up e1))
/-- an if without else, the rest behind it -/
theorem q_when {c : TT} {b : Bool} (hc : Gb Γ c b) (h1 : b = true → Go M Γ { D with nx := u D } t) (h2 : b = false → Go M Γ D u) : Go M Γ D (tSeq (tIfS c t tNext) u) := go_if (D := { D with nx := u D }) hc h1 h2
theorem q_if {c : TT} {b : Bool} {t2 : TS} (hc : Gb Γ c b) (h1 : b = true → Go M Γ { D with nx := u D } t) (h2 : b = false → Go M Γ { D with nx := u D } t2) : Go M Γ D (tSeq (tIfS c t t2) u) := go_if (D := { D with nx := u D }) hc h1 h2
theorem go_drop (he : Gv Γ te P) (k : Nx M Γ D.nx) : Go M Γ D (tDrop te) := fun σ H m s => he σ H _ s fun v H1 e1 hv => k σ H1 (M.up e1 m) (s.up e1)
theorem q_drop (he : Gv Γ te P) (k : Go M Γ D u) : Go M Γ D (tSeq (tDrop te) u) := go_drop (D := { D with nx := u D }) he k
theorem go_aug {i : Nat} {f : Int → Int → Int} {a b : Int} (hx : Γ[i]? = some (some (tD K (.int a)))) (he : Gv Γ te (tD K (.int b))) (k : Nx M (Γ.set i (some (tD K (.int (f a b))))) D.nx) : Go M Γ D (tAug i te (ipI f)) := fun σ H m s => by
  obtain ⟨v, h1, h2⟩ := s.at_ i _ hx
  exact ⟨v, h1, he σ H _ s fun w H1 e1 hw => ⟨a, b, Du.int_inv h2, Du.int_inv hw, k _ H1 (M.up e1 m) ((s.up e1).set i (.int _))⟩⟩
theorem q_aug {i : Nat} {f : Int → Int → Int} {a b : Int} (hx : Γ[i]? = some (some (tD K (.int a)))) (he : Gv Γ te (tD K (.int b))) (k : Go M (Γ.set i (some (tD K (.int (f a b))))) D u) : Go M Γ D (tSeq (tAug i te (ipI f)) u) := go_aug (D := { D with nx := u D }) hx he k
theorem go_sub (h : Go M Γ1 D t) (hl : Γ.length = Γ1.length) (k : ∀ (i : Nat) (P : Ty), Γ1[i]? = some (some P) → Γ[i]? = some (some P)) : Go M Γ D t := fun σ H m s => h σ H m (s.sub hl k)
/-! ### what is walked -/
def Gi (Γ : Ctx) (wi : TI) (n : Nat) (T : Nat → Ty) : Prop := ∀ (σ : L2.St) (H : Hp) (R : It → Hp → Prop), Sat Γ σ H →
  (∀ J H1 G, Same H H1 → (∀ H', Im H1 H' → G H') → Walk J n G (fun i H' x H'' => Same H' H'' ∧ ((∀ H2, Im H1 H2 → G H2) → Im H1 H' → (T i).p x H'')) → R J H1) → wi σ H R
theorem walk_to {J : It} {n : Nat} {G : Hp → Prop} {Y Y' : Nat → Hp → V → Hp → Prop} (w : Walk J n G Y) (h : ∀ i H x H', i < n → Y i H x H' → Y' i H x H') : Walk J n G Y' := ⟨w.goes, w.stops, fun i H x H' hi g y => h i H x H' hi (w.yields i H x H' hi g y)⟩
/-- a tuple of data -/
theorem gi_tup {ds : List PyData} {T : Nat → Ty} (he : Gv Γ te (tD K (.tuple ds))) (hT : ∀ i d, ds[i]? = some d → T i = tD K d) : Gi Γ (iTup K te) ds.length T := fun σ H R s q => he σ H _ s fun v H1 e1 hv => by
  obtain ⟨a, xs, e, h1, h2⟩ := hv.tup_inv
  have w : Walk (Itt K a) ds.length (fun H => SqT K H a xs) (YAt xs) := h2.len ▸ walk_tup
  refine ⟨a, e, ⟨xs, h1⟩, q _ H1 _ e1 (fun H' i => im_t i h1) (walk_to w fun i H' x H'' hi y => ?_)⟩
  obtain ⟨e2, hx⟩ := y
  subst e2
  refine ⟨.refl _, fun _ im => ?_⟩
  obtain ⟨d, hd, hdu⟩ := h2.get' hx
  rw [hT i d hd]
  exact hdu.im im
/-- enumerate of a tuple of data -/
theorem gi_enum {ds : List PyData} {ta : TA} {T : Nat → Ty} (he : Ga Γ ta [tD K (.tuple ds)]) (hT : ∀ i d, ds[i]? = some d → T i = tD K (.tuple [.int (i : Nat), d])) : Gi Γ (iEnumT K ta) ds.length T := fun σ H R s q => he σ H _ s fun vs H1 e1 hv => by
  cases hv with
  | cons hv r =>
    cases r
    obtain ⟨a, xs, e, h1, h2⟩ := hv.tup_inv
    subst e
    have w : Walk (IteT K a) ds.length (fun H => SqT K H a xs) (YPair (fun i => some (.int (i : Nat))) (fun i => xs[i]?)) := h2.len ▸ walk_enumT
    refine ⟨a, xs, rfl, h1, q _ H1 _ e1 (fun H' i => im_t i h1) (walk_to w fun i H' x H'' hi y => ?_)⟩
    obtain ⟨Tp, x1, x2, ex, n1, eH, g1, g2⟩ := y
    subst eH
    refine ⟨same_new n1, fun _ im => ?_⟩
    obtain ⟨d, hd, hdu⟩ := h2.get' g2
    cases g1
    rw [hT i d hd, ex]
    exact .tup (SqT.of upd_same) (.cons (.int _) (.cons (hdu.im (im.trans (.of (same_new n1)))) .nil))
/-- range(n) -/
theorem gi_rng {ta : TA} {n : Int} {T : Nat → Ty} (he : Ga Γ ta [tD K (.int n)]) (hn : 0 ≤ n ∧ n < 2 ^ 62) (hT : ∀ i : Nat, T i = tD K (.int (i : Nat))) : Gi Γ (iRng1 ta) n.toNat T := fun σ H R s q => he σ H _ s fun vs H1 e1 hv => by
  cases hv with
  | cons hv r =>
    cases r
    refine ⟨n, by rw [Du.int_inv hv], by omega, hn.2, q _ H1 (fun _ => True) e1 (fun _ _ => trivial) (walk_to walk_range fun i H' x H'' hi y => ?_)⟩
    obtain ⟨e2, hx⟩ := y
    subst e2
    refine ⟨.refl _, fun _ _ => ?_⟩
    rw [hT i, hx]
    show Du K H'' (V.int (0 + (i : Nat))) _
    have z : (0 : Int) + (i : Nat) = (i : Nat) := Int.zero_add _
    rw [z]
    exact .int _
/-- a loop that changes nothing that stood -/
theorem go_for {wi : TI} {n : Nat} {T : Nat → Ty} (hi : Gi Γ wi n T) (Γs : Nat → Ctx) (h0 : ∀ σ H, Sat Γ σ H → Sat (Γs 0) σ H)
    (hs : ∀ i, i < n → ∀ (M' : Hm) (nx bk : L2.St → Hp → Prop), (∀ H, M'.p H → M.p H) → Nx M' (Γs (i + 1)) nx → (∀ σ H, M.p H → D.nx σ H → bk σ H) → ∃ Γ', Gt (Γs i) g (T i) Γ' ∧ Go M' Γ' { D with nx := nx, ct := nx, bk := D.nx } t)
    (hd : Nx M (Γs n) D.nx) : Go M Γ D (tFor wi g t) := fun σ H m s => hi σ H _ s fun J H1 G e1 hG w => by
  refine for_it w (fun i σ' H' => Same H1 H' ∧ Sat (Γs i) σ' H') ⟨.refl H1, h0 σ H1 (s.up e1)⟩ (fun i σ' H' _ p => hG H' (.of p.1)) (fun i x σ' H' H'' hin p y => ?_) (fun σ' H' p => hd σ' H' (M.up p.1 (M.up e1 m)) p.2)
  obtain ⟨y1, y2⟩ := y
  obtain ⟨Γ', hg, hb⟩ := hs i hin (.of H1) (fun σ' H' => Same H1 H' ∧ Sat (Γs (i + 1)) σ' H') (fun σ' H' => True) (fun H2 e2 => M.up e2 (M.up e1 m)) (fun σ2 H2 m2 s2 => ⟨m2, s2⟩) (fun _ _ _ _ => trivial)
  exact hg x σ' H'' _ (p.2.up y1) (y2 hG (.of p.1)) fun σ2 H2 e2 s2 => hb σ2 H2 ((p.1.trans y1).trans e2) s2
theorem q_for {wi : TI} {n : Nat} {T : Nat → Ty} (hi : Gi Γ wi n T) (Γs : Nat → Ctx) (h0 : ∀ σ H, Sat Γ σ H → Sat (Γs 0) σ H)
    (hs : ∀ i, i < n → ∀ (M' : Hm) (nx : L2.St → Hp → Prop), (∀ H, M'.p H → M.p H) → Nx M' (Γs (i + 1)) nx → ∃ Γ', Gt (Γs i) g (T i) Γ' ∧ Go M' Γ' { D with nx := nx, ct := nx, bk := u D } t)
    (hd : Go M (Γs n) D u) : Go M Γ D (tSeq (tFor wi g t) u) := go_for (D := { D with nx := u D }) hi Γs h0 (fun i hin M' nx _ a b _ => hs i hin M' nx a b) hd
/-! ### comprehensions -/
theorem sat_wipe {σ : L2.St} {H : Hp} (s : Sat Γ σ H) : ∀ vs : List Nat, Sat (vs.foldr (fun v G => G.set v none) Γ) (wipe σ vs) H
  | [] => s
  | v :: vs => by
    have q := sat_wipe s vs
    refine ⟨?_, fun i P hi => ?_⟩
    · show ((wipe σ vs).set v none).length = ((vs.foldr (fun v G => G.set v none) Γ).set v none).length
      rw [List.length_set, List.length_set, q.len]
    · have hi : ((vs.foldr (fun v G => G.set v none) Γ).set v none)[i]? = some (some P) := hi
      rw [List.getElem?_set] at hi
      show ∃ x, ((wipe σ vs).set v none)[i]? = some (some x) ∧ _
      rw [List.getElem?_set]
      by_cases e : v = i
      · rw [if_pos e] at hi
        split at hi <;> cases hi
      · rw [if_neg e] at hi ⊢
        exact q.at_ i P hi
theorem wipe1 {σ : L2.St} {j : Nat} {x : V} : wipe ((wipe σ [j]).set j (some x)) [j] = wipe σ [j] := by
  show ((σ.set j none).set j (some x)).set j none = σ.set j none
  simp
/-- [e for x in ..] -/
theorem gv_lc {wi : TI} {n j : Nat} {T : Nat → Ty} {ds : List PyData} (hi : Gi Γ wi n T) (hn : ds.length = n) (hz : n ≤ 1000)
    (he : ∀ i d, ds[i]? = some d → Gv ((Γ.set j none).set j (some (T i))) te (tD K d)) : Gv Γ (tLc wi (gName j) tYes te [j]) (tL K ds) := fun σ H Q s q => hi σ H _ s fun J H1 G e1 hG w Dl hD => by
  refine lc_it w (fun i H' => Same H1 H' ∧ ∃ acc, H' Dl = some (.lst acc) ∧ Dus K H' acc (ds.take i)) ⟨same_new hD, [], upd_same, .nil⟩ (fun i H' _ p => hG H' (.of p.1)) (fun i x H' H'' hin p y => ?_) (fun H' p => ?_)
  · obtain ⟨y1, y2⟩ := y
    obtain ⟨p1, acc, p2, p3⟩ := p
    have hd : ∃ d, ds[i]? = some d := ⟨ds[i]'(by omega), by simp [show i < ds.length by omega]⟩
    obtain ⟨d, hd⟩ := hd
    have s1 : Sat ((Γ.set j none).set j (some (T i))) ((wipe σ [j]).set j (some x)) H'' := (sat_wipe (s.up ((e1.trans p1).trans y1)) [j]).set j (y2 hG (.of p1))
    refine ⟨wipe1 (σ := σ) (j := j) (x := x), ?_⟩
    unfold tYes
    refine iteT (he i d hd _ _ _ s1 fun v H4 e4 hv => ⟨acc, e4 _ _ (y1 _ _ p2), ?_, ?_, acc ++ [v], upd_same, ?_⟩)
    · have l := p3.len
      rw [List.length_take] at l
      exact small1000 (by omega)
    · exact fun b o e => by
        rw [upd_ne (ne_of_none e hD)]
        exact e4 _ _ (y1 _ _ (p1 _ _ e))
    · have im : Im H4 (upd H4 Dl (.lst (acc ++ [v]))) := .put (e4 _ _ (y1 _ _ p2)) (fun z => z)
      rw [List.take_add_one, hd]
      exact Dus.append (p3.im ((Im.of (y1.trans e4)).trans im)) (.cons (Du.im im hv) .nil)
  · obtain ⟨p1, acc, p2, p3⟩ := p
    rw [List.take_of_length_le (by omega)] at p3
    exact q _ H' (e1.trans p1) ⟨Dl, acc, rfl, SqL.of p2, p3⟩
end
/-! ### pure defs -/
/-- a promise: arguments, what is given back -/
def spP {ι : Type} (C : ι → Prop) (Ps : ι → List Ty) (R : ι → Ty) : Sp := fun vs H Q _ => ∃ i, C i ∧ Pv H (Ps i) vs ∧ ∀ v H', Same H H' → (R i).p v H' → Q v H'
/-- the names at the entry -/
def ent (N : List Str) (Ps : List Ty) : Ctx := Ps.map some ++ List.replicate (N.length - Ps.length) none
theorem Pv.ent {H : Hp} {N : List Str} {Ps : List Ty} {vs : List V} (h : Pv H Ps vs) : Sat (ent N Ps) (L2.start N vs) H := by
  have l := h.len
  refine ⟨by unfold RP.ent L2.start; simp [l], fun i P hi => ?_⟩
  have key : ∀ {Ps : List Ty} {vs : List V} (i : Nat) (P : Ty), Pv H Ps vs → (Ps.map some)[i]? = some (some P) → ∃ v, (vs.map some)[i]? = some (some v) ∧ P.p v H := by
    intro Ps vs i P h
    induction h generalizing i with
    | nil => intro e; simp at e
    | cons h t ih =>
      intro e
      cases i with
      | zero =>
        simp at e
        subst e
        exact ⟨_, by simp, h⟩
      | succ i =>
        obtain ⟨v, h1, h2⟩ := ih i (by simpa using e)
        exact ⟨v, by simpa using h1, h2⟩
  unfold RP.ent at hi
  unfold L2.start
  by_cases q : i < Ps.length
  · rw [List.getElem?_append_left (by rw [List.length_map]; exact q)] at hi
    rw [List.getElem?_append_left (by rw [List.length_map, l]; exact q)]
    exact key i P h hi
  · rw [List.getElem?_append_right (by rw [List.length_map]; omega), List.getElem?_replicate] at hi
    split at hi <;> cases hi
section
variable {P : Program} {w : World} {K : PySem.W.Frag} {mg : Str → Option Value} {base : Heap} {x qual : Str} {params : Arguments} {body : List Stmt} {scope : Scope} {dvs : List V} {kws : List (Str × V)} {f : Addr} {fd : FuncData}
theorem pure_ok {ι : Type} {C : ι → Prop} {Ps : ι → List Ty} {R : ι → Ty} {N ps : List Str} {k : Nat} (F : FunD K x qual params body scope dvs kws f fd) (S : FnScope N ps scope) (hl : ∀ i, (Ps i).length = ps.length)
    (hb : ∀ (cdv : Value) (A : Around) (outer : List Env) (s : Shared) (H : Hp) (E : XK) (i : ι), Room k (A.deeper (envOfC qual scope s.heap.objs.size f cdv)) → C i →
      ∃ t, PSs (cxOf CX0 P w K mg base N qual scope f cdv A outer s H E).nox body t ∧ ∀ (M : Hm) (D : Ends), Rt (R i) M D → (∀ σ H', M.p H' → (R i).p .non H' → D.nx σ H') → Go M (ent N (Ps i)) D t) :
    FnOk P w K mg base CX0 (k + 1) f fd ps (spP C Ps R) := by
  refine F.ok S (fun vs H Q E ⟨i, _, h, _⟩ => h.len.trans (hl i)) fun cdv A outer s H vs Q E hr ⟨i, c, h, q⟩ => ?_
  obtain ⟨t, ht, hg⟩ := hb cdv A outer s H E i hr c
  refine ⟨t, ht.nox, hg (.of H) _ (fun v H' m r => q v H' m r) (fun σ H' m r => q .non H' m r) _ H (.refl H) h.ent⟩
end
end RP
set_option maxHeartbeats 4000000
namespace RP
open PySem PySem.Spec PyProof.Rows L2
/-! ### calls of pure defs -/
section
variable {K : PySem.W.Frag} {Γ Γ1 : Ctx} {ta te tv : TE} {t tk : TA} {ι : Type} {C : ι → Prop} {Ps : ι → List Ty} {R : ι → Ty} {Qs Zs Ds : List Ty} {E : XK}
theorem sp_run {vs : List V} {H : Hp} {Q : VK} (i : ι) (c : C i) (h : Pv H (Ps i) vs) (q : ∀ v H', Same H H' → (R i).p v H' → Q v H') : spP C Ps R vs H Q E := ⟨i, c, h, q⟩
theorem gv_call {dvs : List V} (i : ι) (hs : Ga Γ t Qs) (hd : ∀ H, Pv H Ds dvs) (e : Ps i = Qs ++ Ds) (c : C i) : Gv Γ (tCall (spP C Ps R) dvs E t) (R i) := fun σ H Q s q =>
  hs σ H _ s fun vs H1 e1 h1 => ⟨i, c, by rw [e]; exact h1.app (hd H1), fun v H' e2 hv => q v H' (e1.trans e2) hv⟩
theorem gv_call0 (i : ι) (hs : Ga Γ t Qs) (e : Ps i = Qs) (c : C i) : Gv Γ (tCall (spP C Ps R) [] E t) (R i) := gv_call (Ds := []) i hs (fun _ => .nil) (by rw [e, List.append_nil]) c
theorem gv_callN {n m : Nat} {gV : List V → List V → List V} (i : ι) (hs : Ga Γ t Qs) (hz : Ga Γ tk Zs) (hn : Qs.length = n) (hm : Zs.length = m) (hg : ∀ H vs zs, Pv H Qs vs → Pv H Zs zs → Pv H (Ps i) (gV vs zs)) (c : C i) : Gv Γ (tCallN n m (spP C Ps R) gV E t tk) (R i) := fun σ H Q s q =>
  hs σ H _ s fun vs H1 e1 h1 => hz σ H1 _ (s.up e1) fun zs H2 e2 h2 => ⟨h1.len.trans hn, h2.len.trans hm, i, c, hg H2 vs zs (h1.up e2) h2, fun v H' e3 hv => q v H' ((e1.trans e2).trans e3) hv⟩
theorem gv_meth {Co : Addr} {m : Str} {fs : List (Str × Ty)} (i : ι) (ho : Gv Γ ta (tO Co fs)) (hn : fs.lookup m = none) (hs : Ga Γ t Qs) (e : Ps i = tO Co fs :: Qs) (c : C i) : Gv Γ (tMeth Co m (spP C Ps R) [] E ta t) (R i) := fun σ H Q s q =>
  ho σ H _ s fun x H1 e1 hx => by
    obtain ⟨a, dx, vs, h1, h2, h3⟩ := id hx
    exact ⟨a, dx, vs, h1, h2, h3.none hn, hs σ H1 _ (s.up e1) fun ws H2 e2 h4 => ⟨i, c, by rw [e, List.append_nil]; exact .cons ((tO Co fs).up e2 hx) h4, fun v H' e3 hv => q v H' ((e1.trans e2).trans e3) hv⟩⟩
/-! ### instances made -/
/-- __init__ of an instance that never changes then -/
def spI {κ : Type} (Co : Addr) (Cd : κ → Prop) (Ps : κ → List Ty) (fs : κ → List (Str × Ty)) : Sp := fun vs H Q _ => ∃ i a dx ws, Cd i ∧ vs = .ref a :: ws ∧ H a = some (.ins Co dx []) ∧ Pv H (Ps i) ws ∧
  ∀ H', (∀ b o, b ≠ a → H b = some o → H' b = some o) → (∃ us, H' a = some (.ins Co dx us) ∧ Flds H' us (fs i)) → Q .non H'
theorem made_same {H H' : Hp} {Co x dx : Addr} (nx : H x = none) (nd : H dx = none) (k : ∀ b o, b ≠ x → (upd (upd H dx (.own x)) x (.ins Co dx [])) b = some o → H' b = some o) : Same H H' := fun b o e => by
  have n1 := ne_of_none e nx
  exact k b o n1 (by rw [upd_ne n1, upd_ne (ne_of_none e nd)]; exact e)
theorem made_up {H : Hp} {Co x dx : Addr} (nx : H x = none) (nd : H dx = none) : Same H (upd (upd H dx (.own x)) x (.ins Co dx [])) := made_same nx nd fun _ _ _ e => e
theorem gv_make {κ : Type} {Co : Addr} {Cd : κ → Prop} {Ps : κ → List Ty} {fs : κ → List (Str × Ty)} (i : κ) (hs : Ga Γ t Qs) (e : Ps i = Qs) (c : Cd i) : Gv Γ (tMake Co (spI Co Cd Ps fs) [] E t) (tO Co (fs i)) := fun σ H Q s q =>
  hs σ H _ s fun vs H1 e1 h1 x dx nx nd _ => ⟨i, x, dx, vs, c, by rw [List.append_nil], upd_same, by rw [e]; exact h1.up (made_up nx nd), fun H' k ⟨us, h2, h3⟩ => ⟨rfl, q _ H' (e1.trans (made_same nx nd k)) ⟨x, dx, us, rfl, h2, h3⟩⟩⟩
theorem gv_makeK {κ : Type} {Co : Addr} {Cd : κ → Prop} {Ps : κ → List Ty} {fs : κ → List (Str × Ty)} {n m : Nat} {gV : List V → List V → List V} (i : κ) (hs : Ga Γ t Qs) (hz : Ga Γ tk Zs) (hn : Qs.length = n) (hm : Zs.length = m)
    (hg : ∀ x vs zs, ∃ r, gV (x :: vs) zs = x :: r ∧ ∀ H, Pv H Qs vs → Pv H Zs zs → Pv H (Ps i) r) (c : Cd i) : Gv Γ (tMakeK Co n m (spI Co Cd Ps fs) gV E t tk) (tO Co (fs i)) := fun σ H Q s q =>
  hs σ H _ s fun vs H1 e1 h1 => hz σ H1 _ (s.up e1) fun zs H2 e2 h2 => ⟨h1.len.trans hn, h2.len.trans hm, fun x dx nx nd _ => by
    obtain ⟨r, g1, g2⟩ := hg (.ref x) vs zs
    exact ⟨i, x, dx, r, c, g1, upd_same, g2 _ ((h1.up e2).up (made_up nx nd)) (h2.up (made_up nx nd)), fun H' k ⟨us, h2, h3⟩ => ⟨rfl, q _ H' ((e1.trans e2).trans (made_same nx nd k)) ⟨x, dx, us, rfl, h2, h3⟩⟩⟩⟩
end
/-! ### a field is set, in __init__ -/
/-- behind Hs, the instance at a has the fields fs so far -/
def Mi (a Co dx : Addr) (Hs : Hp) (fs : List (Str × Ty)) : Hm := ⟨fun H => (∀ b o, b ≠ a → Hs b = some o → H b = some o) ∧ ∃ us, H a = some (.ins Co dx us) ∧ Flds H us fs, fun e h => let ⟨k, us, h1, h2⟩ := h; ⟨fun b o n q => e _ _ (k b o n q), us, e _ _ h1, h2.up e⟩⟩
theorem putF_new {f : Str} {v : V} : ∀ {us : List (Str × V)}, f ∉ us.map (·.1) → putF f v us = us ++ [(f, v)]
  | [], _ => rfl
  | (g, w) :: us, h => by
    have n : ¬ g = f := fun e => h (by rw [e]; exact List.mem_cons_self ..)
    show (if g = f then _ else _) = _
    rw [if_neg n, putF_new (us := us) fun q => h (List.mem_cons_of_mem _ q)]
    rfl
theorem Flds.app {H : Hp} : ∀ {us ws : List (Str × V)} {fs ts : List (Str × Ty)}, Flds H us fs → Flds H ws ts → Flds H (us ++ ws) (fs ++ ts)
  | _, _, _, _, .nil, s => s
  | _, _, _, _, .cons h t, s => .cons h (Flds.app t s)
section
variable {K : PySem.W.Frag} {Γ Γ' : Ctx} {a Co dx : Addr} {Hs : Hp} {fs fs' : List (Str × Ty)} {f : Str} {P : Ty} {te tv : TE} {D : Ends} {u : TS}
/-- the fields so far are no whole instance's -/
def part (fs : List (Str × Ty)) : Bool := !decide (fs.map (·.1) ∈ fixed) && decide (fs.length < 1000)
theorem mi_put {H : Hp} {v : V} (m : (Mi a Co dx Hs fs).p H) (hp : part fs = true) (hf : f ∉ fs.map (·.1)) (fx : ∀ q ∈ fs, q.2.Fx) (px : P.Fx) (hv : P.p v H) :
    ∃ us, H a = some (.ins Co dx us) ∧ us.length < 1000 ∧ Im H (upd H a (.ins Co dx (putF f v us))) ∧ (Mi a Co dx Hs (fs ++ [(f, P)])).p (upd H a (.ins Co dx (putF f v us))) := by
  obtain ⟨k, us, h1, h2⟩ := m
  have nm := h2.names
  have z := Bool.and_eq_true_iff.mp hp
  have z1 : ¬ fs.map (·.1) ∈ fixed := by
    have := z.1
    simpa using this
  have z2 : fs.length < 1000 := of_decide_eq_true z.2
  have lu : us.length = fs.length := by
    have := congrArg List.length nm
    simpa using this
  have im : Im H (upd H a (.ins Co dx (putF f v us))) := .put h1 fun q => z1 (by rw [← nm]; exact q)
  refine ⟨us, h1, by omega, im, fun b o n e => by rw [upd_ne n]; exact k b o n e, _, upd_same, ?_⟩
  have key : Flds (upd H a (.ins Co dx (putF f v us))) (us ++ [(f, v)]) (fs ++ [(f, P)]) := (h2.im im fx).app (.cons (px im hv) .nil)
  have e : putF f v us = us ++ [(f, v)] := putF_new (by rw [nm]; exact hf)
  generalize upd H a (.ins Co dx (putF f v us)) = H' at key
  rw [e]
  exact key
/-- the names so far are no whole instance's, f is a new one -/
def fresh (ns : List Str) (f : Str) : Bool := (!decide (ns ∈ fixed) && decide (ns.length < 1000)) && !decide (f ∈ ns)
theorem fresh_to {ns : List Str} (e : fs.map (·.1) = ns) (h : fresh ns f = true) : part fs = true ∧ f ∉ fs.map (·.1) := by
  subst e
  obtain ⟨h1, h2⟩ := Bool.and_eq_true_iff.mp h
  refine ⟨?_, by simpa using h2⟩
  rw [List.length_map] at h1
  exact h1
theorem q_fld {j : Nat} (hj : Γ[j]? = some (some (tV (.ref a)))) (he : Gv Γ tv P) (hc : Cls K Co) (hn : NoAttr K Co f) (gx : ∀ P, some P ∈ Γ → P.Fx) (fx : ∀ q ∈ fs, q.2.Fx) (px : P.Fx) (ns : List Str) (hns : fs.map (·.1) = ns) (hp : fresh ns f = true)
    (k : Nx (Mi a Co dx Hs (fs ++ [(f, P)])) Γ D.nx) : Go (Mi a Co dx Hs fs) Γ D (sFld K (tVar j) tv f) := fun σ H m s =>
  he σ H _ s fun v H1 e1 hv => by
    obtain ⟨x, h1, h2⟩ := (s.up e1).at_ j _ hj
    obtain ⟨us, h3, h4, im, m2⟩ := mi_put ((Mi a Co dx Hs fs).up e1 m) (fresh_to hns hp).1 (fresh_to hns hp).2 fx px hv
    exact ⟨x, h1, a, Co, dx, us, h2, h3, hc, hn, h4, k σ _ m2 ((s.up e1).fx im gx)⟩
theorem s_fld {j : Nat} (hj : Γ[j]? = some (some (tV (.ref a)))) (he : Gv Γ tv P) (hc : Cls K Co) (hn : NoAttr K Co f) (gx : ∀ P, some P ∈ Γ → P.Fx) (fx : ∀ q ∈ fs, q.2.Fx) (px : P.Fx) (ns : List Str) (hns : fs.map (·.1) = ns) (hp : fresh ns f = true)
    (k : Go (Mi a Co dx Hs (fs ++ [(f, P)])) Γ D u) : Go (Mi a Co dx Hs fs) Γ D (tSeq (sFld K (tVar j) tv f) u) := q_fld (D := { D with nx := u D }) hj he hc hn gx fx px ns hns hp k
/-- several fields from a tuple -/
def Gms (a Co dx : Addr) (Hs : Hp) (Γ : Ctx) (fs : List (Str × Ty)) (g : TGs) (Ps : List Ty) (fs' : List (Str × Ty)) : Prop := ∀ (vs : List V) (σ : L2.St) (H : Hp) (Q : L2.St → Hp → Prop), (Mi a Co dx Hs fs).p H → Sat Γ σ H → Pv H Ps vs →
  (∀ H', (Mi a Co dx Hs fs').p H' → Sat Γ σ H' → Q σ H') → g vs σ H Q
theorem Pv.im {H H' : Hp} (e : Im H H') : ∀ {Ps : List Ty} {vs : List V}, (∀ P ∈ Ps, P.Fx) → Pv H Ps vs → Pv H' Ps vs
  | _, _, _, .nil => .nil
  | _, _, a, .cons h t => .cons (a _ (List.mem_cons_self ..) e h) (Pv.im e (fun q hq => a q (List.mem_cons_of_mem _ hq)) t)
theorem gms_nil : Gms a Co dx Hs Γ fs gNil [] fs := fun vs σ H Q m s h q => by
  cases h
  exact ⟨rfl, q H m s⟩
theorem gms_cons {j : Nat} {gs : TGs} {Ps : List Ty} (hj : Γ[j]? = some (some (tV (.ref a)))) (hc : Cls K Co) (hn : NoAttr K Co f) (gx : ∀ P, some P ∈ Γ → P.Fx) (fx : ∀ q ∈ fs, q.2.Fx) (px : ∀ R ∈ P :: Ps, R.Fx) (ns : List Str) (hns : fs.map (·.1) = ns) (hp : fresh ns f = true)
    (h : Gms a Co dx Hs Γ (fs ++ [(f, P)]) gs Ps fs') : Gms a Co dx Hs Γ fs (gCons (gFld K (tVar j) f) gs) (P :: Ps) fs' := fun vs σ H Q m s hv q => by
  cases hv with
  | cons hv t =>
    obtain ⟨x, h1, h2⟩ := s.at_ j _ hj
    obtain ⟨us, h3, h4, im, m2⟩ := mi_put m (fresh_to hns hp).1 (fresh_to hns hp).2 fx (px _ (List.mem_cons_self ..)) hv
    exact ⟨_, _, rfl, x, h1, a, Co, dx, us, h2, h3, hc, hn, h4, h _ σ _ Q m2 (s.fx im gx) (t.im im fun R hR => px R (List.mem_cons_of_mem _ hR)) q⟩
theorem s_flds {gs : TGs} {ds : List PyData} {n : Nat} (he : Gv Γ te (tD K (.tuple ds))) (hn : ds.length = n) (h : Gms a Co dx Hs Γ fs gs (ds.map (tD K)) fs') (k : Go (Mi a Co dx Hs fs') Γ D u) :
    Go (Mi a Co dx Hs fs) Γ D (tSeq (tAsg te (gTup K n gs)) u) := fun σ H m s => he σ H _ s fun v H1 e1 hv => by
  obtain ⟨b, xs, e, h1, h2⟩ := hv.tup_inv
  exact ⟨b, xs, e, h1, h2.len.trans hn, h xs σ H1 _ ((Mi a Co dx Hs fs).up e1 m) (s.up e1) (pv_data h2) fun H' m' s' => k σ H' m' s'⟩
end
section
variable {P : Program} {w : World} {K : PySem.W.Frag} {mg : Str → Option Value} {base : Heap} {x qual : Str} {params : Arguments} {body : List Stmt} {scope : Scope} {dvs : List V} {kws : List (Str × V)} {f : Addr} {fd : FuncData}
/-- __init__ of an instance that never changes then -/
theorem init_ok {κ : Type} {Co : Addr} {Cd : κ → Prop} {Ps : κ → List Ty} {fs : κ → List (Str × Ty)} {N ps : List Str} {k : Nat} (F : FunD K x qual params body scope dvs kws f fd) (S : FnScope N ps scope) (hl : ∀ i, (Ps i).length + 1 = ps.length)
    (hb : ∀ (cdv : Value) (A : Around) (outer : List Env) (s : Shared) (H : Hp) (E : XK) (i : κ), Room k (A.deeper (envOfC qual scope s.heap.objs.size f cdv)) → Cd i →
      ∃ t, PSs (cxOf CX0 P w K mg base N qual scope f cdv A outer s H E).nox body t ∧ ∀ (a dx : Addr) (D : Ends), Nx (Mi a Co dx H (fs i)) (ent N (tV (.ref a) :: Ps i)) D.nx → Go (Mi a Co dx H []) (ent N (tV (.ref a) :: Ps i)) D t) :
    FnOk P w K mg base CX0 (k + 1) f fd ps (spI Co Cd Ps fs) := by
  refine F.ok S (fun vs H Q E ⟨i, a, dx, ws, _, e, _, h, _⟩ => by rw [e, List.length_cons, h.len]; exact hl i) fun cdv A outer s H vs Q E hr ⟨i, a, dx, ws, c, e, ha, h, q⟩ => ?_
  obtain ⟨t, ht, hg⟩ := hb cdv A outer s H E i hr c
  refine ⟨t, ht.nox, hg a dx { nx := fun _ H' => Q .non H', rt := Q } (fun σ H' m _ => q H' m.1 m.2) _ H ⟨fun b o _ e => e, [], ha, .nil⟩ ?_⟩
  rw [e]
  exact (Pv.cons (P := tV (.ref a)) rfl h).ent
end
/-! ### who is called -/
section
variable (P : Program) (w : World) (K : PySem.W.Frag) (mg : Str → Option Value) (base : Heap)
/-- the module's x, called with n values; ds its defaults -/
def Cal (x : Str) (k : Nat) (dvs : List V) (sp : Sp) : Prop := ∃ f fd ps ds, FnOk P w K mg base CX0 k f fd ps sp ∧ mg x = some (.ref f) ∧ PySem.W.keepIn K (.ref f) = true ∧ Binds K fd ps ds ∧ Vals dvs ds
/-- the same with keywords: gV the values in the parameters' order -/
def CalK (x : Str) (k n : Nat) (ks : List Str) (gV : List V → List V → List V) (sp : Sp) : Prop := ∃ f fd ps g, FnOk P w K mg base CX0 k f fd ps sp ∧ mg x = some (.ref f) ∧ PySem.W.keepIn K (.ref f) = true ∧ KBn K fd ps n ks g gV
/-- the method m of the class at C -/
def CalM (C : Addr) (m : Str) (k : Nat) (sp : Sp) : Prop := ∃ f fd ps, FnOk P w K mg base CX0 k f fd ps sp ∧ Meth K C m f ∧ Binds K fd ps []
/-- the class x at C -/
def CalC (x : Str) (C : Addr) (k : Nat) (sp : Sp) : Prop := ∃ f fd ps, FnOk P w K mg base CX0 k f fd ps sp ∧ mg x = some (.ref C) ∧ Mk K C f ∧ Binds K fd ps []
def CalCK (x : Str) (C : Addr) (k n : Nat) (ks : List Str) (gV : List V → List V → List V) (sp : Sp) : Prop := ∃ f fd ps g, FnOk P w K mg base CX0 k f fd ps sp ∧ mg x = some (.ref C) ∧ Mk K C f ∧ KBn K fd ps (n + 1) ks g gV
end
section
variable {X : Cx} {x m : Str} {k j n : Nat} {dvs : List V} {sp : Sp} {ks : List Str} {gV : List V → List V → List V} {p pos apos : Pos} {e o : Expr} {es : List Expr} {kwl : List Keyword} {t tk : TA} {ta : TE} {C : Addr}
theorem pe_cal (c : Cal X.prog X.w X.K X.mg X.base x k dvs sp) (hr : Room j X.A) (hk : k ≤ j) (hg : Gl X x) (ha : PA X (e :: es) t) (hdb : (x == ("__debug__" : Str)) = false := by decide) (he : starEach (e :: es) X.env = (false, eval e X.env) :: starEach es X.env := by rfl) (hpl : (backTo pos (starEach es X.env)).any (·.1) = false := by rfl) :
    PE X (.Call (.Name x p) (e :: es) [] pos) (tCall sp dvs E0 t) := by
  obtain ⟨f, fd, ps, ds, F, h1, h2, h3, h4⟩ := c
  exact pe_call F (hr.mono hk) hg h1 h2 h3 h4 pass0 ha hdb he hpl
theorem pe_cal0 (c : Cal X.prog X.w X.K X.mg X.base x k dvs sp) (hr : Room j X.A) (hk : k ≤ j) (hg : Gl X x) (hdb : (x == ("__debug__" : Str)) = false := by decide) : PE X (.Call (.Name x p) [] [] pos) (tCall sp dvs E0 tNil) := by
  obtain ⟨f, fd, ps, ds, F, h1, h2, h3, h4⟩ := c
  exact pe_call0 F (hr.mono hk) hg h1 h2 h3 h4 pass0 hdb
theorem pe_calK (c : CalK X.prog X.w X.K X.mg X.base x k n ks gV sp) (hr : Room j X.A) (hk : k ≤ j) (hg : Gl X x) (ha : PA X (e :: es) t) (hkw : PK X kwl tk) (hall : (backToKw pos (keywordEach kwl X.env)).all (·.1.isSome) = true := by rfl) (hks : (backToKw pos (keywordEach kwl X.env)).filterMap (·.1) = ks := by rfl)
    (hdb : (x == ("__debug__" : Str)) = false := by decide) (he : starEach (e :: es) X.env = (false, eval e X.env) :: starEach es X.env := by rfl)
    (hpl : ((backTo pos (starEach (e :: es) X.env)).any (·.1) || (backToKw pos (keywordEach kwl X.env)).any (·.1.isNone)) = false := by rfl) :
    PE X (.Call (.Name x p) (e :: es) kwl pos) (tCallN n ks.length sp gV E0 t tk) := by
  obtain ⟨f, fd, ps, g, F, h1, h2, h3⟩ := c
  exact pe_callN F (hr.mono hk) hg h1 h2 h3 pass0 ha hkw hall hks hdb he hpl
theorem pe_calM {pl : Sem Bool} (c : CalM X.prog X.w X.K X.mg X.base C m k sp) (hc : Cls X.K C) (hr : Room j X.A) (hk : k ≤ j) (ho : PE X o ta) (ha : PA X (e :: es) t)
    (hst : starEach (e :: es) X.env = (false, eval e X.env) :: starEach es X.env := by rfl) (hpl : (backTo pos (starEach es X.env)).any (·.1) = false := by rfl)
    (ht : eval (.Call (.Attribute o m apos) (e :: es) [] pos) X.env = (do
      let ov ← eval o X.env
      standAt apos.atName
      let (f, first) ← holding [ov] (getMethod ov m pl)
      callWith pos f first (backTo pos (starEach (e :: es) X.env)) (backToKw pos (keywordEach [] X.env))) := by rfl) :
    PE X (.Call (.Attribute o m apos) (e :: es) [] pos) (tMeth C m sp [] E0 ta t) := by
  obtain ⟨f, fd, ps, F, h1, h2⟩ := c
  exact pe_meth ho hc h1 F (hr.mono hk) h2 .nil pass0 ha hst hpl ht
theorem pe_calM0 {pl : Sem Bool} (c : CalM X.prog X.w X.K X.mg X.base C m k sp) (hc : Cls X.K C) (hr : Room j X.A) (hk : k ≤ j) (ho : PE X o ta)
    (ht : eval (.Call (.Attribute o m apos) [] [] pos) X.env = (do
      let ov ← eval o X.env
      standAt apos.atName
      let (f, first) ← holding [ov] (getMethod ov m pl)
      callWith pos f first (backTo pos (starEach [] X.env)) (backToKw pos (keywordEach [] X.env))) := by rfl) :
    PE X (.Call (.Attribute o m apos) [] [] pos) (tMeth C m sp [] E0 ta tNil) := by
  obtain ⟨f, fd, ps, F, h1, h2⟩ := c
  exact pe_meth0 ho hc h1 F (hr.mono hk) h2 .nil pass0 ht
theorem pe_calC (c : CalC X.prog X.w X.K X.mg X.base x C k sp) (hr : Room j X.A) (hk : k + 1 ≤ j) (hg : Gl X x) (ha : PA X (e :: es) t) (hdb : (x == ("__debug__" : Str)) = false := by decide) (he : starEach (e :: es) X.env = (false, eval e X.env) :: starEach es X.env := by rfl) (hpl : (backTo pos (starEach es X.env)).any (·.1) = false := by rfl) :
    PE X (.Call (.Name x p) (e :: es) [] pos) (tMake C sp [] E0 t) := by
  obtain ⟨f, fd, ps, F, h1, h2, h3⟩ := c
  exact pe_make h2 F (hr.mono hk) hg h1 h3 .nil pass0 ha hdb he hpl
theorem pe_calCK (c : CalCK X.prog X.w X.K X.mg X.base x C k n ks gV sp) (hr : Room j X.A) (hk : k + 1 ≤ j) (hg : Gl X x) (ha : PA X (e :: es) t) (hkw : PK X kwl tk)
    (hall : (backToKw pos (keywordEach kwl X.env)).all (·.1.isSome) = true := by rfl) (hks : (backToKw pos (keywordEach kwl X.env)).filterMap (·.1) = ks := by rfl) (hdb : (x == ("__debug__" : Str)) = false := by decide)
    (he : starEach (e :: es) X.env = (false, eval e X.env) :: starEach es X.env := by rfl) (hpl : ((backTo pos (starEach (e :: es) X.env)).any (·.1) || (backToKw pos (keywordEach kwl X.env)).any (·.1.isNone)) = false := by rfl) :
    PE X (.Call (.Name x p) (e :: es) kwl pos) (tMakeK C n ks.length sp gV E0 t tk) := by
  obtain ⟨f, fd, ps, g, F, h1, h2, h3⟩ := c
  exact pe_makeK h2 F (hr.mono hk) hg h1 h3 pass0 ha hkw hall hks hdb he hpl
end
end RP
set_option maxHeartbeats 4000000
namespace RP
open PySem PySem.Spec PyProof.Rows L2
section
variable {K : PySem.W.Frag} {Γ : Ctx} {ta tb te : TE} {ts : TA} {P A B : Ty} {X : Cx}
/-! ### data by place, lengths, sums -/
theorem Dus.atI {H : Hp} {vs : List V} {ds : List PyData} {i : Int} {d : PyData} (h : Dus K H vs ds) (e : L2.atI ds i = some d) : ∃ v, L2.atI vs i = some v ∧ Du K H v d := by
  obtain ⟨j, h1, h2, h3, h4, h5⟩ := atI_get e
  unfold L2.atI at e ⊢
  rw [h.len]
  cases q : ixN ds.length i with
  | none => rw [q] at e; cases e
  | some j' =>
    rw [q] at e
    obtain ⟨v, a1, a2⟩ := h.get (i := j') (d := d) e
    exact ⟨v, a1, a2⟩
theorem gv_ix {ds : List PyData} {i : Int} {d : PyData} (ha : Gv Γ ta (tD K (.tuple ds))) (hb : Gv Γ tb (tD K (.int i))) (e : L2.atI ds i = some d) : Gv Γ (tOp (rIxT K) ta tb) (tD K d) := gv_op ha hb fun x y H Q hx hy q => by
  obtain ⟨a, xs, ex, h1, h2⟩ := Du.tup_inv hx
  obtain ⟨v, h3, h4⟩ := h2.atI e
  exact ⟨a, xs, i, v, ex, Du.int_inv hy, h1, h3, q v H (.refl H) h4⟩
theorem gv_ixL {ds : List PyData} {i : Int} {d : PyData} (ha : Gv Γ ta (tL K ds)) (hb : Gv Γ tb (tD K (.int i))) (e : L2.atI ds i = some d) : Gv Γ (tOp (rIxL K) ta tb) (tD K d) := gv_op ha hb fun x y H Q hx hy q => by
  obtain ⟨a, xs, ex, h1, h2⟩ := hx
  obtain ⟨v, h3, h4⟩ := h2.atI e
  exact ⟨a, xs, i, v, ex, Du.int_inv hy, h1, h3, q v H (.refl H) h4⟩
abbrev rLn (K : PySem.W.Frag) : List V → Hp → VK → Prop := fun xs H Q => ∃ p ys, xs = [.ref p] ∧ (SqL K H p ys ∨ SqT K H p ys) ∧ Q (.int ys.length) H
theorem Pv.one {H : Hp} {P : Ty} {vs : List V} (h : Pv H [P] vs) : ∃ v, vs = [v] ∧ P.p v H := by
  cases h with
  | cons h t =>
    cases t
    exact ⟨_, rfl, h⟩
theorem Pv.two {H : Hp} {P R : Ty} {vs : List V} (h : Pv H [P, R] vs) : ∃ v u, vs = [v, u] ∧ P.p v H ∧ R.p u H := by
  cases h with
  | cons h t =>
    obtain ⟨u, e, h2⟩ := t.one
    exact ⟨_, u, by rw [e], h, h2⟩
theorem gc_len {ds : List PyData} : Gc (rLn K) [tD K (.tuple ds)] (tD K (.int ds.length)) := fun vs H Q hv q => by
  obtain ⟨v, rfl, h⟩ := hv.one
  obtain ⟨a, xs, e, h1, h2⟩ := Du.tup_inv h
  exact ⟨a, xs, by rw [e], .inr h1, q _ H (.refl H) (h2.len ▸ .int _)⟩
theorem gc_lenL {ds : List PyData} : Gc (rLn K) [tL K ds] (tD K (.int ds.length)) := fun vs H Q hv q => by
  obtain ⟨v, rfl, h⟩ := hv.one
  obtain ⟨a, xs, e, h1, h2⟩ := h
  exact ⟨a, xs, by rw [e], .inl h1, q _ H (.refl H) (h2.len ▸ .int _)⟩
/-- a range object -/
def tR (j : Int) : Ty := ⟨fun v H => ∃ p, v = .ref p ∧ H p = some (.rng 0 j), fun e h => let ⟨p, h1, h2⟩ := h; ⟨p, h1, e _ _ h2⟩⟩
theorem gc_range {j : Int} : Gc (fun vs H Q => ∃ j, vs = [V.int j] ∧ ∀ p, H p = none → Q (.ref p) (upd H p (.rng 0 j))) [tD K (.int j)] (tR j) := fun vs H Q hv q => by
  obtain ⟨v, rfl, h⟩ := hv.one
  exact ⟨j, by rw [Du.int_inv h], fun p hp => q _ _ (same_new hp) ⟨p, rfl, upd_same⟩⟩
theorem gc_lenR {j : Int} (h0 : 0 ≤ j ∧ j < 2 ^ 62) : Gc (fun vs H Q => ∃ (p : Addr) (j : Int), vs = [V.ref p] ∧ H p = some (.rng 0 j) ∧ 0 ≤ j ∧ j < 2 ^ 62 ∧ Q (.int j) H) [tR j] (tD K (.int j)) := fun vs H Q hv q => by
  obtain ⟨v, rfl, p, e, h⟩ := hv.one
  exact ⟨p, j, by rw [e], h, h0.1, h0.2, q _ H (.refl H) (.int _)⟩
theorem gc_sumT {ns : List Int} : Gc (rSumT K) [tD K (.tuple (ns.map .int))] (tD K (.int ns.sum)) := fun vs H Q hv q => by
  obtain ⟨v, rfl, h⟩ := hv.one
  obtain ⟨a, xs, e, h1, h2⟩ := Du.tup_inv h
  rw [h2.ints] at h1
  exact ⟨a, ns, by rw [e], h1, q _ H (.refl H) (.int _)⟩
theorem gc_sumL {ns : List Int} : Gc (rSum K) [tL K (ns.map .int)] (tD K (.int ns.sum)) := fun vs H Q hv q => by
  obtain ⟨v, rfl, h⟩ := hv.one
  obtain ⟨a, xs, e, h1, h2⟩ := h
  rw [h2.ints] at h1
  exact ⟨a, ns, by rw [e], h1, q _ H (.refl H) (.int _)⟩
theorem gc_maxT {ns : List Int} {m : Int} (hm : m ∈ ns) (hx : ∀ y ∈ ns, y ≤ m) : Gc (rMaxT K) [tD K (.tuple (ns.map .int))] (tD K (.int m)) := fun vs H Q hv q => by
  obtain ⟨v, rfl, h⟩ := hv.one
  obtain ⟨a, xs, e, h1, h2⟩ := Du.tup_inv h
  rw [h2.ints] at h1
  refine ⟨a, ns, by rw [e], h1, List.length_pos_of_mem hm, fun m' a1 a2 => ?_⟩
  have : m' = m := by
    have b1 := a2 m hm
    have b2 := hx m' a1
    omega
  rw [this]
  exact q _ H (.refl H) (.int _)
theorem gc_all {bs : List Bool} : Gc (rAll K) [tL K (bs.map .bool)] (tD K (.bool (bs.all id))) := fun vs H Q hv q => by
  obtain ⟨v, rfl, h⟩ := hv.one
  obtain ⟨a, xs, e, h1, h2⟩ := h
  rw [h2.bools] at h1
  exact ⟨a, bs, by rw [e], h1, q _ H (.refl H) (.bl _)⟩
abbrev rTupOf (K : PySem.W.Frag) : List V → Hp → VK → Prop := fun xs H Q => ∃ p ys, xs = [.ref p] ∧ ((SqL K H p ys ∧ ∀ l, H l = none → Q (.ref l) (upd H l (.tup ys))) ∨ (SqT K H p ys ∧ Q (.ref p) H))
theorem gc_tupL {ds : List PyData} : Gc (rTupOf K) [tL K ds] (tD K (.tuple ds)) := fun vs H Q hv q => by
  obtain ⟨v, rfl, h⟩ := hv.one
  obtain ⟨a, xs, e, h1, h2⟩ := h
  exact ⟨a, xs, by rw [e], .inl ⟨h1, fun l hl => q _ _ (same_new hl) (.tup (SqT.of upd_same) (h2.im (.of (same_new hl))))⟩⟩
/-! ### types -/
def tyN : PyData → String
  | .none => "NoneType"
  | .bool _ => "bool"
  | .int _ => "int"
  | .str _ => "str"
  | .tuple _ => "tuple"
  | _ => "list"
theorem Du.tyX {H : Hp} {v : V} {d : PyData} (h : Du K H v d) : TyX K H v (.type (tyN d)) := by
  cases h with
  | non => exact .base .non
  | bl b => exact .base (.bl b)
  | int i => exact .base (.int i)
  | str x => exact .base (.str x)
  | tup h t =>
    rcases h with (h | ⟨o, h⟩) | ⟨o, its, n, h1, h2, _⟩
    · exact .base (.tup h)
    · exact .fTuple h
    · exact .kTuple h1 h2
theorem gc_isi {d : PyData} {T : String} {b : Bool} (hb : kitB (tyN d) T = some b) : Gc (rIsi K) [tD K d, tV (.ty T)] (tD K (.bool b)) := fun vs H Q hv q => by
  obtain ⟨v, u, rfl, h, rfl⟩ := hv.two
  exact ⟨v, .ty T, .type (tyN d), .type T, b, rfl, .ty T, Du.tyX h, kit_ty hb, q _ H (.refl H) (.bl _)⟩
abbrev rInt1 : List V → Hp → VK → Prop := fun xs H Q => (∃ i, xs = [.int i] ∧ Q (.int i) H) ∨ ∃ k, xs = [.bl k] ∧ Q (.int (if k then 1 else 0)) H
theorem gc_intB {b : Bool} : Gc rInt1 [tD K (.bool b)] (tD K (.int (if b then 1 else 0))) := fun vs H Q hv q => by
  obtain ⟨v, rfl, h⟩ := hv.one
  exact .inr ⟨b, by rw [Du.bl_inv h], q _ H (.refl H) (.int _)⟩
/-! ### in -/
theorem inV_ints (i : Int) : ∀ ns : List Int, inV (.int i) (ns.map V.int) = decide (i ∈ ns)
  | [] => by simp [inV]
  | n :: ns => by
    have ih := inV_ints i ns
    unfold inV at ih ⊢
    rw [List.map_cons, List.any_cons, ih]
    show ((n == i) || _) = _
    by_cases e : n = i
    · subst e; simp
    · have e2 : ¬ i = n := fun z => e z.symm
      simp [e, e2]
theorem flat_ints : ∀ ns : List Int, (ns.map V.int).all flatV = true
  | [] => rfl
  | n :: ns => by rw [List.map_cons, List.all_cons, flat_ints ns]; rfl
theorem gv_in {i : Int} {ns : List Int} (ha : Gv Γ ta (tD K (.int i))) (hb : Gv Γ tb (tD K (.tuple (ns.map .int)))) : Gv Γ (tOp (rIn K false) ta tb) (tD K (.bool (decide (i ∈ ns)))) := gv_op ha hb fun x y H Q hx hy q => by
  obtain ⟨a, xs, e, h1, h2⟩ := Du.tup_inv hy
  rw [h2.ints] at h1
  rw [Du.int_inv hx]
  exact ⟨a, _, e, .inr h1, rfl, flat_ints ns, by
    show Q (.bl (inV (.int i) (ns.map V.int))) H
    rw [inV_ints]
    exact q _ H (.refl H) (.bl _)⟩
theorem gv_notIn {i : Int} {ns : List Int} (ha : Gv Γ ta (tD K (.int i))) (hb : Gv Γ tb (tD K (.tuple (ns.map .int)))) : Gv Γ (tOp (rIn K true) ta tb) (tD K (.bool (!decide (i ∈ ns)))) := gv_op ha hb fun x y H Q hx hy q => by
  obtain ⟨a, xs, e, h1, h2⟩ := Du.tup_inv hy
  rw [h2.ints] at h1
  rw [Du.int_inv hx]
  exact ⟨a, _, e, .inr h1, rfl, flat_ints ns, by
    show Q (.bl (!inV (.int i) (ns.map V.int))) H
    rw [inV_ints]
    exact q _ H (.refl H) (.bl _)⟩
/-! ### tuples put together, cut -/
theorem gv_cat {ds es : List PyData} (ha : Gv Γ ta (tD K (.tuple ds))) (hb : Gv Γ tb (tD K (.tuple es))) (hz : ds.length + es.length ≤ sizeLine) : Gv Γ (tOp (rCatA K) ta tb) (tD K (.tuple (ds ++ es))) := gv_op ha hb fun x y H Q hx hy q => by
  obtain ⟨a, xs, e1, h1, h2⟩ := Du.tup_inv hx
  obtain ⟨b, ys, e2, h3, h4⟩ := Du.tup_inv hy
  refine ⟨a, b, xs, ys, e1, e2, h1, h3, by rw [h2.len, h4.len]; exact hz, fun e => ?_, fun _ e => ?_, fun _ _ p hp => q _ _ (same_new hp) (.tup (SqT.of upd_same) ((h2.append h4).im (.of (same_new hp))))⟩
  · subst e
    cases h2
    exact q _ H (.refl H) (.tup h3 h4)
  · subst e
    cases h4
    exact q _ H (.refl H) (.tup h1 (by rw [List.append_nil]; exact h2))
def cutD (ds : List PyData) (lo hi : Option Int) : List PyData := (ds.drop (HT.sIx ds.length 0 lo)).take (HT.sIx ds.length ds.length hi - HT.sIx ds.length 0 lo)
def Go1 (Γ : Ctx) (to : TO) (o : Option Int) : Prop := ∀ (σ : L2.St) (H : Hp) (Q : Option Int → Hp → Prop), Sat Γ σ H → (∀ H', Same H H' → Q o H') → to σ H Q
theorem go1_none : Go1 Γ tNoPart none := fun σ H Q s q => q H (.refl H)
theorem go1_some {i : Int} (h : Gv Γ te (tD K (.int i))) : Go1 Γ (tPart te) (some i) := fun σ H Q s q => h σ H _ s fun v H' e hv => ⟨i, Du.int_inv hv, q H' e⟩
theorem gv_slice {ds : List PyData} {tl th : TO} {lo hi : Option Int} (ha : Gv Γ ta (tD K (.tuple ds))) (hl : Go1 Γ tl lo) (hh : Go1 Γ th hi) : Gv Γ (tSl (rSlA K) ta tl th) (tD K (.tuple (cutD ds lo hi))) := fun σ H Q s q =>
  ha σ H _ s fun v H1 e1 hv => hl σ H1 _ (s.up e1) fun H2 e2 => hh σ H2 _ ((s.up e1).up e2) fun H3 e3 => by
    obtain ⟨a, xs, e, h1, h2⟩ := Du.tup_inv (Du.im (.of (e2.trans e3)) hv)
    have l := h2.len
    have hc : Dus K H3 (cutV xs lo hi) (cutD ds lo hi) := by
      unfold cutV cutD
      rw [l]
      exact (h2.drop _).take _
    refine ⟨a, xs, e, h1, fun hw => ?_, fun _ p hp => q _ _ (((e1.trans e2).trans e3).trans (same_new hp)) (.tup (SqT.of upd_same) (hc.im (.of (same_new hp))))⟩
    have hw2 : cutD ds lo hi = ds := by
      unfold cutD
      rw [← l, hw.1, hw.2]
      simp [l]
    rw [hw2] at q
    exact q _ H3 ((e1.trans e2).trans e3) (.tup h1 h2)
theorem gv_sliceL {ds : List PyData} {tl th : TO} {lo hi : Option Int} (ha : Gv Γ ta (tL K ds)) (hl : Go1 Γ tl lo) (hh : Go1 Γ th hi) : Gv Γ (tSl (rSlL K) ta tl th) (tL K (cutD ds lo hi)) := fun σ H Q s q =>
  ha σ H _ s fun v H1 e1 hv => hl σ H1 _ (s.up e1) fun H2 e2 => hh σ H2 _ ((s.up e1).up e2) fun H3 e3 => by
    obtain ⟨a, xs, e, h1, h2⟩ := (tL K ds).up (e2.trans e3) hv
    have hc : Dus K H3 (cutV xs lo hi) (cutD ds lo hi) := by
      unfold cutV cutD
      rw [h2.len]
      exact (h2.drop _).take _
    exact ⟨a, xs, e, h1, fun p hp => q _ _ (((e1.trans e2).trans e3).trans (same_new hp)) ⟨p, _, rfl, SqL.of upd_same, hc.im (.of (same_new hp))⟩⟩
theorem Dus.rep {H : Hp} {v : V} {d : PyData} (h : Du K H v d) : ∀ n : Nat, Dus K H (List.replicate n v) (List.replicate n d)
  | 0 => .nil
  | n + 1 => .cons h (Dus.rep h n)
theorem gv_rep {d : PyData} {k : Int} (ha : Gv Γ ta (tD K (.tuple [d]))) (hb : Gv Γ tb (tD K (.int k))) (hk : 0 ≤ k ∧ k ≤ 1000) : Gv Γ (tOp (rRep1 K) ta tb) (tD K (.tuple (List.replicate k.toNat d))) := gv_op ha hb fun x y H Q hx hy q => by
  obtain ⟨a, xs, e1, h1, h2⟩ := Du.tup_inv hx
  cases h2 with
  | cons h t =>
    cases t
    refine ⟨a, k, _, e1, Du.int_inv hy, h1, hk.1, hk.2, fun e => ?_, fun _ p hp => q _ _ (same_new hp) (.tup (SqT.of upd_same) ?_)⟩
    · subst e
      exact q _ H (.refl H) (.tup h1 (.cons h .nil))
    · exact Dus.im (.of (same_new hp)) (Dus.rep h _)
/-! ### ==, != , < of data -/
theorem gv_eqD {d e : PyData} (ha : Gv Γ ta (tD K d)) (hb : Gv Γ tb (tD K e)) (h1 : SeqAt.shaped d = true) (h2 : SeqAt.shaped e = true) : Gv Γ (tOp (rEqD K) ta tb) (tD K (.bool (PyData.eqv d e))) := gv_op ha hb fun x y H Q hx hy q => ⟨d, e, Du.dp hx, Du.dp hy, h1, h2, q _ H (.refl H) (.bl _)⟩
theorem gv_neD {d e : PyData} (ha : Gv Γ ta (tD K d)) (hb : Gv Γ tb (tD K e)) (h1 : SeqAt.shaped d = true) (h2 : SeqAt.shaped e = true) : Gv Γ (tOp (rNeD K) ta tb) (tD K (.bool (!PyData.eqv d e))) := gv_op ha hb fun x y H Q hx hy q => ⟨d, e, Du.dp hx, Du.dp hy, h1, h2, q _ H (.refl H) (.bl _)⟩
theorem gv_ltD {d e : PyData} (ha : Gv Γ ta (tD K d)) (hb : Gv Γ tb (tD K e)) (h1 : PySem.W.alike d e = true) (h2 : d ≠ .none) (h3 : d.depth ≤ 30) : Gv Γ (tOp (rLtD K) ta tb) (tD K (.bool (PySem.W.dataLt d e))) := gv_op ha hb fun x y H Q hx hy q => ⟨d, e, Du.dp hx, Du.dp hy, h1, h2, h3, q _ H (.refl H) (.bl _)⟩
/-! ### {a: x, b: y}[k] with whole numbers -/
theorem gv_dget2 {ka kb va vb ti : TE} {a b i : Int} {x y z : PyData} (h1 : Gv Γ ka (tD K (.int a))) (h2 : Gv Γ va (tD K x)) (h3 : Gv Γ kb (tD K (.int b))) (h4 : Gv Γ vb (tD K y)) (hi : Gv Γ ti (tD K (.int i))) (hab : a ≠ b) (hz : (i = a ∧ z = x) ∨ (i = b ∧ z = y)) :
    Gv Γ (tDGet (tDisp [(ka, va), (kb, vb)]) ti) (tD K z) := fun σ H Q s q => fun p hp => by
  have e0 : Same H (upd H p (.dK [])) := same_new hp
  refine h1 σ _ _ (s.up e0) fun v1 H1 e1 d1 => h2 σ H1 _ ((s.up e0).up e1) fun v2 H2 e2 d2 => h3 σ H2 _ (((s.up e0).up e1).up e2) fun v3 H3 e3 d3 => h4 σ H3 _ ((((s.up e0).up e1).up e2).up e3) fun v4 H4 e4 d4 => ?_
  have hp4 : H4 p = some (.dK []) := e4 _ _ (e3 _ _ (e2 _ _ (e1 _ _ upd_same)))
  refine ⟨hp4, [(.inl a, v2), (.inl b, v4)], by rw [Du.int_inv d1, Du.int_inv d3]; rfl, by show 2 ≤ 15; decide, ?_⟩
  have em : mergeK [] [((.inl a : Key), v2), (.inl b, v4)] = [(.inl a, v2), (.inl b, v4)] := by
    show putK [((.inl a : Key), v2)] (.inl b) v4 = _
    unfold putK
    simp [hab]
  rw [em]
  have e5 : Same H (upd H4 p (.dK [(.inl a, v2), (.inl b, v4)])) := fun c o hc => by
    rw [upd_ne (ne_of_none hc hp)]
    exact e4 _ _ (e3 _ _ (e2 _ _ (e1 _ _ (e0 _ _ hc))))
  have im : Im H4 (upd H4 p (.dK [(.inl a, v2), (.inl b, v4)])) := .put hp4 fun z => z
  refine hi σ _ _ (s.up e5) fun vi H6 e6 di => ?_
  have hd : H6 p = some (.dK [(.inl a, v2), (.inl b, v4)]) := e6 _ _ upd_same
  have g := DGet.k (k := (.inl i : Key)) hd
  rw [Du.int_inv di]
  rcases hz with ⟨e, z1⟩ | ⟨e, z1⟩
  · subst e z1
    have hv : valV [((.inl i : Key), v2), (.inl b, v4)] (.inl i) = some v2 := by simp [valV]
    rw [hv] at g
    exact ⟨p, v2, rfl, g, q v2 H6 (e5.trans e6) (Du.im (((Im.of (e3.trans e4)).trans im).trans (.of e6)) (Du.im (.of (Same.refl _)) d2))⟩
  · subst e z1
    have hv : valV [((.inl a : Key), v2), (.inl i, v4)] (.inl i) = some v4 := by
      have n : ¬ i = a := fun z => hab z.symm
      simp [valV, hab]
    rw [hv] at g
    exact ⟨p, v4, rfl, g, q v4 H6 (e5.trans e6) (Du.im (im.trans (.of e6)) d4)⟩
end
end RP
set_option maxHeartbeats 4000000
namespace RP
open PySem PySem.Spec PyProof.Rows L2
section
variable {K : PySem.W.Frag} {Γ Γ1 : Ctx} {ta tb te : TE} {ts : TA} {P : Ty} {X : Cx} {D : Ends} {M : Hm} {u : TS}
/-- arguments that are data -/
def Gd (K : PySem.W.Frag) (Γ : Ctx) (ts : TA) (ds : List PyData) : Prop := ∃ Ps, Ga Γ ts Ps ∧ AreD K Ps ds
theorem gd_nil : Gd K Γ tNil [] := ⟨[], ga_nil, .nil⟩
theorem gd_cons {d : PyData} {ds : List PyData} (h : Gv Γ te (tD K d)) (t : Gd K Γ ts ds) : Gd K Γ (tCons te ts) (d :: ds) := let ⟨Ps, h1, h2⟩ := t; ⟨_, ga_cons h h1, .cons h2⟩
theorem gv_tupd {ds : List PyData} (h : Gd K Γ ts ds) (hl : Nat.ble ds.length 16777216 = true) : Gv Γ (tTup ts) (tD K (.tuple ds)) := let ⟨_, h1, h2⟩ := h; gv_tup h1 h2 (by rw [sizeLine_eq]; exact Nat.le_of_ble_eq_true hl)
theorem gv_ty {T : String} : Gv Γ (tC (.ty T)) (tV (.ty T)) := gv_c fun _ => rfl
theorem gv_cb1 {r : List V → Hp → VK → Prop} {A : Ty} (h : Gv Γ ta A) (hr : Gc r [A] P) : Gv Γ (tCB r (tCons ta tNil)) P := gv_cb (ga_cons h ga_nil) hr
theorem gv_isi {d : PyData} {T : String} {b : Bool} (h : Gv Γ ta (tD K d)) (hb : kitB (tyN d) T = some b) : Gv Γ (tCB (rIsi K) (tCons ta (tCons (tC (.ty T)) tNil))) (tD K (.bool b)) := gv_cb (ga_cons h (ga_cons gv_ty ga_nil)) (gc_isi hb)
theorem kb_ii : kitB "int" "int" = some true := by decide +kernel
theorem kb_ib : kitB "int" "bool" = some false := by decide +kernel
theorem kb_it : kitB "int" "tuple" = some false := by decide +kernel
theorem kb_tt : kitB "tuple" "tuple" = some true := by decide +kernel
theorem kb_ti : kitB "tuple" "int" = some false := by decide +kernel
theorem kb_bi : kitB "bool" "int" = some true := by decide +kernel
theorem kb_bb : kitB "bool" "bool" = some true := by decide +kernel
theorem kb_ni : kitB "NoneType" "int" = some false := by decide +kernel
theorem kb_si : kitB "str" "int" = some false := by decide +kernel
theorem gv_chain0 {p q : Int → Int → Bool} {i j k : Int} (ha : Gv Γ ta (tD K (.int i))) (hb : Gv Γ tb (tD K (.int j))) (hc : p i j = true → Gv Γ te (tD K (.int k))) :
    Gv Γ (tChain (rI0 fun i j => .bl (p i j)) (rI0 fun i j => .bl (q i j)) ta tb te) (tD K (.bool (p i j && q j k))) := gv_chain ha hb (g2_I0 fun _ => .bl _) hc fun _ => g2_I0 fun _ => .bl _
theorem gt_star0 {first mids : List PyData} {n i : Nat} {gs : TGs} (h : Gts Γ gs (first.map (tD K) ++ [tL K mids]) Γ1) (hi : first.length = i) (hn : i + 1 = n) (hl : (first ++ mids).length ≤ 16384) : Gt Γ (gStar K n i gs) (tD K (.tuple (first ++ mids))) Γ1 := by
  have z := gt_star (K := K) (Γ := Γ) (Γ1 := Γ1) (first := first) (mids := mids) (lasts := []) (n := n) (i := i) (gs := gs) h hi hn (by rw [List.append_nil]; exact hl)
  rw [List.append_nil] at z
  exact z
/-- whole numbers in a tuple -/
abbrev dI (ns : List Int) : PyData := .tuple (ns.map .int)
theorem gv_ixI {ns : List Int} {j : Nat} {i z : Int} (ha : Gv Γ ta (tD K (dI ns))) (hb : Gv Γ tb (tD K (.int i))) (e : i = (j : Int)) (h : ns[j]? = some z) : Gv Γ (tOp (rIxT K) ta tb) (tD K (.int z)) := by
  subst e
  exact gv_ix ha hb (atI_nat (by rw [List.getElem?_map, h]; rfl))
theorem gv_ixN {ds : List PyData} {j : Nat} {i : Int} {d : PyData} (ha : Gv Γ ta (tD K (.tuple ds))) (hb : Gv Γ tb (tD K (.int i))) (e : i = (j : Int)) (h : ds[j]? = some d) : Gv Γ (tOp (rIxT K) ta tb) (tD K d) := by
  subst e
  exact gv_ix ha hb (atI_nat h)
end
end RP
set_option maxHeartbeats 4000000
namespace RP
open PySem PySem.Spec PyProof.Rows L2
/-! ### functions as values -/
structure Clb (P : Program) (w : World) (K : PySem.W.Frag) (mg : Str → Option Value) (base : Heap) (k : Nat) (f : Addr) (sp : Sp) (H : Hp) : Prop where
  fn : ∀ (H1 : Hp) (h : Heap), Im H H1 → K.In h → HOk P w H1 h → ∃ (od : Option Addr) (fd : FuncData) (sl : Array (Option Value)), h.get? f = some ⟨.type "function", od, .func fd, sl⟩
  run : ∀ (A : Around) (outer : List Env) (s : Shared) (H1 : Hp) (us : List Value) (vs : List V) (Q : VK), Im H H1 → Room k A → Env0 P w K mg base A outer s H1 → Vals vs us → sp vs H1 Q E0 →
    codeAny (model P w) A (.call (.ref f) ⟨us, []⟩) (CR CX0 outer P w H1 s Q E0) s
def tClb (P : Program) (w : World) (K : PySem.W.Frag) (mg : Str → Option Value) (base : Heap) (k i : Nat) (t : TA) : TE := fun σ H Q => ∃ (f : Addr) (sp : Sp), σ[i]? = some (some (.ref f)) ∧ Clb P w K mg base k f sp H ∧ t σ H fun vs H1 => Im H H1 ∧ sp vs H1 Q E0
section
variable {P : Program} {w : World} {K : PySem.W.Frag} {mg : Str → Option Value} {base : Heap} {k j i : Nat} {f : Addr} {sp : Sp} {H H' : Hp}
theorem Clb.im (e : Im H H') (c : Clb P w K mg base k f sp H) : Clb P w K mg base k f sp H' := ⟨fun H1 h e1 => c.fn H1 h (e.trans e1), fun A outer s H1 us vs Q e1 => c.run A outer s H1 us vs Q (e.trans e1)⟩
/-- a function that keeps the promise sp -/
def tF (P : Program) (w : World) (K : PySem.W.Frag) (mg : Str → Option Value) (base : Heap) (k : Nat) (sp : Sp) : Ty := ⟨fun v H => ∃ f, v = .ref f ∧ Clb P w K mg base k f sp H, fun e h => let ⟨f, h1, h2⟩ := h; ⟨f, h1, h2.im (.of e)⟩⟩
theorem tF_fx : (tF P w K mg base k sp).Fx := fun e h => let ⟨f, h1, h2⟩ := h; ⟨f, h1, h2.im e⟩
theorem gv_clb {ι : Type} {C : ι → Prop} {Ps : ι → List Ty} {R : ι → Ty} {Γ : Ctx} {t : TA} (x : ι) (hi : Γ[i]? = some (some (tF P w K mg base k (spP C Ps R)))) (hs : Ga Γ t (Ps x)) (c : C x) : Gv Γ (tClb P w K mg base k i t) (R x) := fun σ H Q s q => by
  obtain ⟨v, h1, f, e, h2⟩ := s.at_ i _ hi
  subst e
  exact ⟨f, _, h1, h2, hs σ H _ s fun vs H1 e1 h3 => ⟨.of e1, x, c, h3, fun v H' e2 hv => q v H' (e1.trans e2) hv⟩⟩
theorem clb_of {x qual : Str} {params : Arguments} {body : List Stmt} {scope : Scope} {dvs : List V} {kws : List (Str × V)} {fd : FuncData} {ps : List Str} (F : FunD K x qual params body scope dvs kws f fd) (o : FnOk P w K mg base CX0 k f fd ps sp) (b : Binds K fd ps [])
    (hc : ∀ ob, K.lookup f = some ob → ob.cls = .type "function") (H : Hp) : Clb P w K mg base k f sp H := by
  refine ⟨fun H1 h _ X _ => ?_, fun A outer s H1 us vs Q _ hr e0 r h => ?_⟩
  · obtain ⟨oc, od, dV, kV, doc, pm, an, cdv, ct, osl, e, lk, _⟩ := F.ex
    have hz := hc _ lk
    exact ⟨od, fd, osl, by
      have := X _ _ lk
      rw [this]
      have e2 : oc = .type "function" := hz
      rw [e2]⟩
  · have KX : K.In s.heap := e0.mod.kin.keeps fun b o e => (e0.bs b o e).1
    have hl : us.length = ps.length := by rw [← r.length]; exact o.len _ _ _ _ h
    exact o.run A outer s H1 ⟨us, []⟩ us vs Q E0 hr e0 (by
      have z := b s us KX (by simpa using hl)
      simpa using z) r h
end
section
variable {K : PySem.W.Frag} {Γ : Ctx} {M : Hm} {D : Ends} {t t2 u : TS} {c : TT} {b : Bool} {A B : Ty}
/-- both ways come together: the names i, j hold an A, a B then -/
theorem q_join2 (i j : Nat) (A B : Ty) (hc : Gb Γ c b) (h1 : b = true → Nx M ((Γ.set i (some A)).set j (some B)) (u D) → Go M Γ { D with nx := u D } t) (h2 : b = false → Nx M ((Γ.set i (some A)).set j (some B)) (u D) → Go M Γ { D with nx := u D } t2)
    (k : Go M ((Γ.set i (some A)).set j (some B)) D u) : Go M Γ D (tSeq (tIfS c t t2) u) := q_if hc (fun h => h1 h k) (fun h => h2 h k)
theorem q_join1 (i : Nat) (A : Ty) (hc : Gb Γ c b) (h1 : b = true → Nx M (Γ.set i (some A)) (u D) → Go M Γ { D with nx := u D } t) (h2 : b = false → Nx M (Γ.set i (some A)) (u D) → Go M Γ { D with nx := u D } t2)
    (k : Go M (Γ.set i (some A)) D u) : Go M Γ D (tSeq (tIfS c t t2) u) := q_if hc (fun h => h1 h k) (fun h => h2 h k)
theorem go_set {te : TE} {P : Ty} {i : Nat} (he : Gv Γ te P) (k : Nx M (Γ.set i (some P)) D.nx) : Go M Γ D (tAsg te (gName i)) := go_asg he gt_name k
end
section
variable {X : Cx} {k j i : Nat} {x : Str} {t : TA} {e : Expr} {es : List Expr} {p pos : Pos}
theorem pe_clb (hr : Room j X.A) (hk : k ≤ j) (hN : X.N[i]? = some x) (hv : Vis X.env.scope x) (ha : PA X (e :: es) t) (hd : (x == ("__debug__" : Str)) = false := by decide) (hcd : (x == ("__classdict__" : Str)) = false := by decide)
    (he : starEach (e :: es) X.env = (false, eval e X.env) :: starEach es X.env := by rfl) (hpl : (backTo pos (starEach es X.env)).any (·.1) = false := by rfl) :
    PE X (.Call (.Name x p) (e :: es) [] pos) (tClb X.prog X.w X.K X.mg X.base k i t) := by
  refine ⟨fun pins s σ H Q I h => ?_⟩
  obtain ⟨f, sp, hs, hf, ht⟩ := h
  refine wpAny_Call_Name_kw (thn ((pe_var (pos := p) hN hv hd hcd).run pins s σ H (fun v H1 => v = .ref f ∧ H1 = H) I ⟨.ref f, hs, rfl, rfl⟩) fun u s1 ⟨v, H1, I1, r1, q1⟩ => ?_)
  obtain ⟨ev, eH⟩ := q1
  subst ev
  rw [eH] at I1
  obtain rfl : u = Value.ref f := r1
  have at_ : ∀ {s : Shared} {H1 : Hp}, Inv X pins σ H1 s → Im H H1 → PySem.W.FnAt f s.heap := fun J e => by
    obtain ⟨od, fd, sl, ho⟩ := hf.fn _ _ e J.kIn J.hok
    exact ⟨_, od, fd, sl, ho⟩
  refine PySem.W.callWith_F (first := []) (at_ I1 (.refl H)) (thn (ha.run pos pins s1 σ H _ I1 ht) fun us s2 ⟨vs, H2, I2, r, im, q⟩ => ⟨at_ I2 im, ?_⟩) he hpl
  show wpAny _ _ (call (.ref f) us) _ _ _
  refine wpAny_call (codeAny_mono (hf.run X.A X.stack s2 H2 us vs Q im (hr.mono hk) I2.env0 r q) fun r s' hq => ?_)
  cases r with
  | error e => exact False.elim hq
  | ok fl =>
    cases fl with
    | ret u => exact I2.after hq
    | next => exact False.elim hq
    | brk => exact False.elim hq
    | cont => exact False.elim hq
theorem callR_or {f : Value} {r1 r2 : List V → Hp → VK → Prop} (h1 : CallR X f r1) (h2 : CallR X f r2) : CallR X f (fun vs H Q => r1 vs H Q ∨ r2 vs H Q) := by
  intro pins s σ H vs us Q I r h
  rcases h with h | h
  · exact h1 pins s σ H vs us Q I r h
  · exact h2 pins s σ H vs us Q I r h
end
end RP
set_option maxHeartbeats 4000000
namespace RP
open PySem PySem.Spec PyProof.Rows L2
/-! ### fewer claims; one of several -/
inductive Wkn : Ctx → Ctx → Prop
  | nil : Wkn [] []
  | any {o : Option Ty} {Γ Γ' : Ctx} (t : Wkn Γ Γ') : Wkn (o :: Γ) (none :: Γ')
  | keep {o : Option Ty} {Γ Γ' : Ctx} (t : Wkn Γ Γ') : Wkn (o :: Γ) (o :: Γ')
  | to {P P' : Ty} {Γ Γ' : Ctx} (h : ∀ v H, P.p v H → P'.p v H) (t : Wkn Γ Γ') : Wkn (some P :: Γ) (some P' :: Γ')
theorem Wkn.len : ∀ {Γ Γ' : Ctx}, Wkn Γ Γ' → Γ.length = Γ'.length
  | _, _, .nil => rfl
  | _, _, .any t => congrArg Nat.succ t.len
  | _, _, .keep t => congrArg Nat.succ t.len
  | _, _, .to _ t => congrArg Nat.succ t.len
theorem Wkn.at_ : ∀ {Γ Γ' : Ctx}, Wkn Γ Γ' → ∀ (i : Nat) (P' : Ty), Γ'[i]? = some (some P') → ∃ P : Ty, Γ[i]? = some (some P) ∧ ∀ v H, P.p v H → P'.p v H
  | _, _, .nil, i, P', e => by simp at e
  | _, _, .any t, 0, P', e => by simp at e
  | _, _, .any t, i + 1, P', e => by
    obtain ⟨P, h1, h2⟩ := t.at_ i P' (by simpa using e)
    exact ⟨P, by simpa using h1, h2⟩
  | _, _, .keep t, 0, P', e => ⟨P', e, fun _ _ h => h⟩
  | _, _, .keep t, i + 1, P', e => by
    obtain ⟨P, h1, h2⟩ := t.at_ i P' (by simpa using e)
    exact ⟨P, by simpa using h1, h2⟩
  | _, _, .to (P := P) (P' := R) h t, 0, P', e => by
    have e1 : R = P' := Option.some.inj (Option.some.inj (by simpa using e))
    subst e1
    exact ⟨P, rfl, h⟩
  | _, _, .to h t, i + 1, P', e => by
    obtain ⟨P, h1, h2⟩ := t.at_ i P' (by simpa using e)
    exact ⟨P, by simpa using h1, h2⟩
theorem Sat.wk {Γ Γ' : Ctx} {σ : L2.St} {H : Hp} (s : Sat Γ σ H) (k : Wkn Γ Γ') : Sat Γ' σ H := ⟨s.len.trans k.len, fun i P' h => by
  obtain ⟨P, h1, h2⟩ := k.at_ i P' h
  obtain ⟨v, h3, h4⟩ := s.at_ i P h1
  exact ⟨v, h3, h2 v H h4⟩⟩
theorem Nx.wk {M : Hm} {Γ Γ' : Ctx} {k : L2.St → Hp → Prop} (h : Nx M Γ' k) (w : Wkn Γ Γ') : Nx M Γ k := fun σ H m s => h σ H m (s.wk w)
/-- one of several -/
def tE {ι : Type} (C : ι → Prop) (P : ι → Ty) : Ty := ⟨fun v H => ∃ x, C x ∧ (P x).p v H, fun e h => let ⟨x, c, h⟩ := h; ⟨x, c, (P x).up e h⟩⟩
theorem go_open {ι : Type} {C : ι → Prop} {P : ι → Ty} {Γ : Ctx} {M : Hm} {D : Ends} {t : TS} {i : Nat} (h : Γ[i]? = some (some (tE C P))) (k : ∀ x, C x → Go M (Γ.set i (some (P x))) D t) : Go M Γ D t := fun σ H m s => by
  obtain ⟨v, h1, x, c, h2⟩ := s.at_ i _ h
  have e : σ.set i (some v) = σ := by
    apply List.ext_getElem?
    intro j
    rw [List.getElem?_set]
    by_cases q : i = j
    · subst q
      rw [if_pos rfl, h1]
      by_cases l : i < σ.length
      · rw [if_pos l]
      · rw [List.getElem?_eq_none (by omega)] at h1
        cases h1
    · rw [if_neg q]
  have s2 := s.set (P := P x) i h2
  rw [e] at s2
  exact k x c σ H m s2
theorem Rt.le {R : Ty} {M M' : Hm} {D : Ends} (r : Rt R M D) (h : ∀ H, M'.p H → M.p H) : Rt R M' D := fun v H m q => r v H (h H m) q
end RP
set_option maxHeartbeats 4000000
namespace RP
open PySem PySem.Spec PyProof.Rows L2
/-! ### an instance that changes, with its lists -/
structure Mo where
  fs : List (Str × Ty)
  ls : List (Addr × List PyData)
inductive Lsts (K : PySem.W.Frag) (H : Hp) : List (Addr × List PyData) → Prop
  | nil : Lsts K H []
  | cons {l : Addr} {ds : List PyData} {xs : List V} {r : List (Addr × List PyData)} (h : H l = some (.lst xs)) (d : Dus K H xs ds) (t : Lsts K H r) : Lsts K H ((l, ds) :: r)
section
variable {K : PySem.W.Frag} {H H' : Hp}
theorem Lsts.up (e : Same H H') : ∀ {ls : List (Addr × List PyData)}, Lsts K H ls → Lsts K H' ls
  | _, .nil => .nil
  | _, .cons h d t => .cons (e _ _ h) (d.im (.of e)) (t.up e)
/-- the lists stand, the rest but for changing things stands -/
theorem Lsts.fx (e : Im H H') : ∀ {ls : List (Addr × List PyData)}, Lsts K H ls → (∀ l xs, l ∈ ls.map Prod.fst → H l = some (.lst xs) → H' l = some (.lst xs)) → Lsts K H' ls
  | _, .nil, _ => .nil
  | _, .cons h d t, k => .cons (k _ _ (List.mem_cons_self ..) h) (d.im e) (t.fx e fun l xs m => k l xs (List.mem_cons_of_mem _ m))
theorem Lsts.at_ : ∀ {ls : List (Addr × List PyData)} {i : Nat} {l : Addr} {ds : List PyData}, Lsts K H ls → ls[i]? = some (l, ds) → ∃ xs, H l = some (.lst xs) ∧ Dus K H xs ds
  | _, _, _, _, .nil, e => by simp at e
  | _, 0, l, ds, .cons h d t, e => by
    simp at e
    obtain ⟨rfl, rfl⟩ := e
    exact ⟨_, h, d⟩
  | _, i + 1, l, ds, .cons h d t, e => t.at_ (i := i) (by simpa using e)
theorem Lsts.ins {a C dx : Addr} {us : List (Str × V)} (ha : H a = some (.ins C dx us)) : ∀ {ls : List (Addr × List PyData)}, Lsts K H ls → a ∉ ls.map Prod.fst
  | _, .nil, h => by cases h
  | _, .cons (l := l) h d t, hm => by
    rcases List.mem_cons.mp hm with e | hm
    · have e : a = l := e
      rw [e, h] at ha
      cases ha
    · exact t.ins ha hm
/-- the i-th list holds ds' now -/
theorem Lsts.set {ls : List (Addr × List PyData)} {l : Addr} {ys : List V} {ds' : List PyData} (L : Lsts K H ls) (im : Im H (upd H l (.lst ys))) (hd : Dus K (upd H l (.lst ys)) ys ds') : ∀ {i : Nat} {ds : List PyData}, (ls.map Prod.fst).Nodup → ls[i]? = some (l, ds) → Lsts K (upd H l (.lst ys)) (ls.set i (l, ds')) := by
  induction L with
  | nil => intro i ds _ e; simp at e
  | @cons l0 ds0 xs0 r h d t ih =>
    intro i ds nd e
    have nd' := List.nodup_cons.mp nd
    cases i with
    | zero =>
      simp at e
      obtain ⟨rfl, rfl⟩ := e
      exact .cons upd_same hd (t.fx im fun b xs hb h => by
        rw [upd_ne fun z => nd'.1 (by rw [← z]; exact hb)]
        exact h)
    | succ i =>
      have e : r[i]? = some (l, ds) := by simpa using e
      have hl : l ∈ r.map Prod.fst := List.mem_map.mpr ⟨_, List.mem_of_getElem? e, rfl⟩
      have ne : l0 ≠ l := fun z => nd'.1 (by rw [z]; exact hl)
      exact .cons (by rw [upd_ne ne]; exact h) (d.im im) (ih nd'.2 e)
end
def Mo.adr (m : Mo) (a : Addr) : List Addr := a :: m.ls.map Prod.fst
def tM (K : PySem.W.Frag) (C a dx : Addr) (m : Mo) : Ty := ⟨fun v H => v = .ref a ∧ (∃ us, H a = some (.ins C dx us) ∧ Flds H us m.fs) ∧ Lsts K H m.ls ∧ (m.ls.map Prod.fst).Nodup, fun e h => let ⟨h1, ⟨us, h2, h3⟩, h4, h5⟩ := h; ⟨h1, ⟨us, e _ _ h2, h3.up e⟩, h4.up e, h5⟩⟩
/-- all but S stands -/
def Hm.fr (H0 : Hp) (S : List Addr) : Hm := ⟨fun H => ∀ b o, b ∉ S → H0 b = some o → H b = some o, fun e h b o n q => e _ _ (h b o n q)⟩
/-- the other names hold what never changes -/
inductive CtxFx : Ctx → Prop
  | nil : CtxFx []
  | no {Γ : Ctx} (t : CtxFx Γ) : CtxFx (none :: Γ)
  | yes {P : Ty} {Γ : Ctx} (h : P.Fx) (t : CtxFx Γ) : CtxFx (some P :: Γ)
inductive OFx : Nat → Ctx → Prop
  | here {o : Option Ty} {Γ : Ctx} (t : CtxFx Γ) : OFx 0 (o :: Γ)
  | no {j : Nat} {Γ : Ctx} (t : OFx j Γ) : OFx (j + 1) (none :: Γ)
  | yes {j : Nat} {P : Ty} {Γ : Ctx} (h : P.Fx) (t : OFx j Γ) : OFx (j + 1) (some P :: Γ)
theorem CtxFx.at_ {Γ : Ctx} (c : CtxFx Γ) : ∀ {i : Nat} {P : Ty}, Γ[i]? = some (some P) → @Ty.Fx P := by
  induction c with
  | nil => intro i P e; simp at e
  | no t ih =>
    intro i P e
    cases i with
    | zero => simp at e
    | succ i => exact ih (i := i) (by simpa using e)
  | yes h t ih =>
    intro i P e
    cases i with
    | zero =>
      have e' := Option.some.inj (Option.some.inj (by simpa using e : some (some _) = some (some P)))
      rw [← e']
      exact @h
    | succ i => exact ih (i := i) (by simpa using e)
theorem OFx.at_ {j : Nat} {Γ : Ctx} (o : OFx j Γ) : ∀ {i : Nat} {P : Ty}, i ≠ j → Γ[i]? = some (some P) → @Ty.Fx P := by
  induction o with
  | here t =>
    intro i P n e
    cases i with
    | zero => exact absurd rfl n
    | succ i => exact t.at_ (i := i) (by simpa using e)
  | no t ih =>
    intro i P n e
    cases i with
    | zero => simp at e
    | succ i => exact ih (i := i) (fun z => n (by rw [z])) (by simpa using e)
  | yes h t ih =>
    intro i P n e
    cases i with
    | zero =>
      have e' := Option.some.inj (Option.some.inj (by simpa using e : some (some _) = some (some P)))
      rw [← e']
      exact @h
    | succ i => exact ih (i := i) (fun z => n (by rw [z])) (by simpa using e)
/-- the names behind a change of what the j-th holds -/
theorem Sat.moved {Γ : Ctx} {σ : L2.St} {H H' : Hp} {j : Nat} {P P' : Ty} {v : V} (s : Sat Γ σ H) (im : Im H H') (o : OFx j Γ) (hj : Γ[j]? = some (some P)) (hv : σ[j]? = some (some v)) (h : P'.p v H') : Sat (Γ.set j (some P')) σ H' := by
  refine ⟨by rw [List.length_set, s.len], fun i R hi => ?_⟩
  rw [List.getElem?_set] at hi
  by_cases q : j = i
  · rw [if_pos q] at hi
    split at hi
    · cases hi
      subst q
      exact ⟨v, hv, h⟩
    · cases hi
  · rw [if_neg q] at hi
    obtain ⟨u, h1, h2⟩ := s.at_ i R hi
    exact ⟨u, h1, o.at_ (fun z => q z.symm) hi im h2⟩
/-- a field put: by its name -/
def putT (f : Str) (P : Ty) : List (Str × Ty) → List (Str × Ty)
  | [] => [(f, P)]
  | q :: r => if q.1 = f then (q.1, P) :: r else q :: putT f P r
theorem Flds.put {H : Hp} {f : Str} {v : V} {P : Ty} (hv : P.p v H) : ∀ {us : List (Str × V)} {fs : List (Str × Ty)}, Flds H us fs → Flds H (putF f v us) (putT f P fs)
  | _, _, .nil => .cons hv .nil
  | _, _, .cons (f := g) h t => by
    show Flds H (if g = f then _ else _) (if g = f then _ else _)
    by_cases e : g = f
    · rw [if_pos e, if_pos e]
      exact .cons hv t
    · rw [if_neg e, if_neg e]
      exact .cons h (t.put hv)
section
variable {K : PySem.W.Frag} {Γ : Ctx} {M : Hm} {D : Ends} {u : TS} {te tv : TE} {C a dx : Addr} {m : Mo} {f : Str} {P : Ty} {j : Nat} {H0 : Hp} {S : List Addr}
theorem gv_fldM (hj : Γ[j]? = some (some (tM K C a dx m))) (hc : Cls K C) (hn : NoAttr K C f) (hl : m.fs.lookup f = some P) : Gv Γ (tFld K (tVar j) f) P := fun σ H Q s q => by
  obtain ⟨v, h1, e, ⟨us, h2, h3⟩, _⟩ := s.at_ j _ hj
  obtain ⟨x, h4, h5⟩ := h3.look hl
  exact ⟨v, h1, a, C, dx, us, x, e, h2, hc, hn, h4, q x H (.refl H) h5⟩
def unfixed (ns : List Str) : Bool := !decide (ns ∈ fixed) && decide (ns.length < 1000)
theorem fr_put {H : Hp} {b : Addr} {o : HO} (h : (Hm.fr H0 S).p H) (hb : b ∈ S) : (Hm.fr H0 S).p (upd H b o) := fun c x n e => by
  rw [upd_ne fun z => n (by rw [z]; exact hb)]
  exact h c x n e
/-- self.f = e -/
theorem m_fld (hj : Γ[j]? = some (some (tM K C a dx m))) (he : Gv Γ tv P) (hc : Cls K C) (hn : NoAttr K C f) (o : OFx j Γ) (fx : ∀ q ∈ m.fs, q.2.Fx) (px : P.Fx) (ns : List Str) (hns : m.fs.map (·.1) = ns) (hu : unfixed ns = true) (hS : a ∈ S)
    (k : Nx (Hm.fr H0 S) (Γ.set j (some (tM K C a dx ⟨putT f P m.fs, m.ls⟩))) D.nx) : Go (Hm.fr H0 S) Γ D (sFld K (tVar j) tv f) := fun σ H mm s =>
  he σ H _ s fun v H1 e1 hv => by
    obtain ⟨x, h1, e, ⟨us, h2, h3⟩, h4, h5⟩ := (s.up e1).at_ j _ hj
    subst e
    subst hns
    have nm := h3.names
    obtain ⟨z1, z2⟩ := Bool.and_eq_true_iff.mp hu
    have z1 : ¬ m.fs.map (·.1) ∈ fixed := by simpa using z1
    have z2 : m.fs.length < 1000 := by
      have := of_decide_eq_true z2
      rw [List.length_map] at this
      exact this
    have lu : us.length = m.fs.length := by
      have := congrArg List.length nm
      simpa using this
    have im : Im H1 (upd H1 a (.ins C dx (putF f v us))) := .put h2 fun q => z1 (by rw [← nm]; exact q)
    refine ⟨_, h1, a, C, dx, us, rfl, h2, hc, hn, by omega, k σ _ (fr_put ((Hm.fr H0 S).up e1 mm) hS) ((s.up e1).moved im o hj h1 ⟨rfl, ⟨_, upd_same, (h3.im im fx).put (px im hv)⟩, h4.fx im fun l xs hl e => ?_, h5⟩)⟩
    rw [upd_ne fun z => h4.ins h2 (by rw [← z]; exact hl)]
    exact e
theorem mq_fld (hj : Γ[j]? = some (some (tM K C a dx m))) (he : Gv Γ tv P) (hc : Cls K C) (hn : NoAttr K C f) (o : OFx j Γ) (fx : ∀ q ∈ m.fs, q.2.Fx) (px : P.Fx) (ns : List Str) (hns : m.fs.map (·.1) = ns) (hu : unfixed ns = true) (hS : a ∈ S)
    (k : Go (Hm.fr H0 S) (Γ.set j (some (tM K C a dx ⟨putT f P m.fs, m.ls⟩))) D u) : Go (Hm.fr H0 S) Γ D (tSeq (sFld K (tVar j) tv f) u) := m_fld (D := { D with nx := u D }) hj he hc hn o fx px ns hns hu hS k
/-- self.f += e -/
theorem m_aug {x y : Int} {g : Int → Int → Int} {rd : V → V → Hp → VK → Prop} (hrd : rd = fun x y H Q => ∃ i j, x = .int i ∧ y = .int j ∧ Q (.int (g i j)) H) (hj : Γ[j]? = some (some (tM K C a dx m))) (hl : m.fs.lookup f = some (tD K (.int x))) (he : Gv Γ tv (tD K (.int y))) (hc : Cls K C) (hn : NoAttr K C f) (o : OFx j Γ) (fx : ∀ q ∈ m.fs, q.2.Fx) (ns : List Str) (hns : m.fs.map (·.1) = ns) (hu : unfixed ns = true) (hS : a ∈ S)
    (k : Nx (Hm.fr H0 S) (Γ.set j (some (tM K C a dx ⟨putT f (tD K (.int (g x y))) m.fs, m.ls⟩))) D.nx) : Go (Hm.fr H0 S) Γ D (sFldAug K (tVar j) tv rd f) := fun σ H mm s => by
  subst hrd
  obtain ⟨v0, h1, e, ⟨us, h2, h3⟩, h4, h5⟩ := s.at_ j _ hj
  subst e
  obtain ⟨w0, h6, h7⟩ := h3.look hl
  refine ⟨_, h1, a, C, dx, us, w0, rfl, h2, hc, hn, h6, he σ H _ s fun v H1 e1 hv => ?_⟩
  subst hns
  have nm := h3.names
  obtain ⟨z1, z2⟩ := Bool.and_eq_true_iff.mp hu
  have z1 : ¬ m.fs.map (·.1) ∈ fixed := by simpa using z1
  have z2 : m.fs.length < 1000 := by
    have := of_decide_eq_true z2
    rw [List.length_map] at this
    exact this
  have lu : us.length = m.fs.length := by
    have := congrArg List.length nm
    simpa using this
  have h2' := e1 _ _ h2
  have im : Im H1 (upd H1 a (.ins C dx (putF f (.int (g x y)) us))) := .put h2' fun q => z1 (by rw [← nm]; exact q)
  refine ⟨x, y, Du.int_inv h7, Du.int_inv hv, dx, us, h2', by omega, k σ _ (fr_put ((Hm.fr H0 S).up e1 mm) hS) ((s.up e1).moved im o hj h1 ⟨rfl, ⟨_, upd_same, ((h3.up e1).im im fx).put (P := tD K (.int (g x y))) (Du.int _)⟩, (h4.up e1).fx im fun l xs hl e => ?_, h5⟩)⟩
  rw [upd_ne fun z => (h4.up e1).ins h2' (by rw [← z]; exact hl)]
  exact e
theorem mq_aug {x y : Int} {g : Int → Int → Int} {rd : V → V → Hp → VK → Prop} (hrd : rd = fun x y H Q => ∃ i j, x = .int i ∧ y = .int j ∧ Q (.int (g i j)) H) (hj : Γ[j]? = some (some (tM K C a dx m))) (hl : m.fs.lookup f = some (tD K (.int x))) (he : Gv Γ tv (tD K (.int y))) (hc : Cls K C) (hn : NoAttr K C f) (o : OFx j Γ) (fx : ∀ q ∈ m.fs, q.2.Fx) (ns : List Str) (hns : m.fs.map (·.1) = ns) (hu : unfixed ns = true) (hS : a ∈ S)
    (k : Go (Hm.fr H0 S) (Γ.set j (some (tM K C a dx ⟨putT f (tD K (.int (g x y))) m.fs, m.ls⟩))) D u) : Go (Hm.fr H0 S) Γ D (tSeq (sFldAug K (tVar j) tv rd f) u) := m_aug (D := { D with nx := u D }) hrd hj hl he hc hn o fx ns hns hu hS k
/-- self.f.append(e) -/
theorem m_app {i : Nat} {l : Addr} {ds : List PyData} {d : PyData} (hj : Γ[j]? = some (some (tM K C a dx m))) (hl : m.fs.lookup f = some (tV (.ref l))) (hi : m.ls[i]? = some (l, ds)) (he : Gv Γ te (tD K d)) (hz : ds.length ≤ 1000) (hc : Cls K C) (hn : NoAttr K C f) (o : OFx j Γ) (fx : ∀ q ∈ m.fs, q.2.Fx) (hS : l ∈ S)
    (k : Nx (Hm.fr H0 S) (Γ.set j (some (tM K C a dx ⟨m.fs, m.ls.set i (l, ds ++ [d])⟩))) D.nx) : Go (Hm.fr H0 S) Γ D (tDrop (tBM K "list" rAppend (tFld K (tVar j) f) (tCons te tNil))) := fun σ H mm s => by
  obtain ⟨v0, h1, e, ⟨us, h2, h3⟩, h4, h5⟩ := s.at_ j _ hj
  subst e
  obtain ⟨w0, h6, h7⟩ := h3.look hl
  obtain ⟨xs, hx, hd⟩ := h4.at_ hi
  obtain rfl : w0 = .ref l := h7
  refine ⟨_, h1, a, C, dx, us, _, rfl, h2, hc, hn, h6, .inl ⟨rfl, _, SqL.of hx⟩, he σ H _ s fun v H1 e1 hv => ?_⟩
  have hx1 := e1 _ _ hx
  have im : Im H1 (upd H1 l (.lst (xs ++ [v]))) := .put hx1 fun z => z
  have nal : a ≠ l := fun z => by
    rw [z, hx] at h2
    cases h2
  refine ⟨l, xs, v, rfl, rfl, hx1, small1000 (by rw [hd.len]; exact hz), k σ _ (fr_put ((Hm.fr H0 S).up e1 mm) hS) ((s.up e1).moved im o hj h1 ⟨rfl, ⟨us, by rw [upd_ne nal]; exact e1 _ _ h2, (h3.up e1).im im fx⟩, (h4.up e1).set im (Dus.append (hd.im ((Im.of e1).trans im)) (.cons (Du.im im hv) .nil)) h5 hi, ?_⟩)⟩
  have e2 : (m.ls.set i (l, ds ++ [d])).map Prod.fst = m.ls.map Prod.fst := by
    apply List.ext_getElem?
    intro n
    rw [List.getElem?_map, List.getElem?_set, List.getElem?_map]
    by_cases q : i = n
    · subst q
      rw [if_pos rfl, hi]
      split <;> rename_i hlt
      · rfl
      · exact absurd (List.getElem?_eq_some_iff.mp hi).1 hlt
    · rw [if_neg q]
  rw [e2]
  exact h5
theorem mq_app {i : Nat} {l : Addr} {ds : List PyData} {d : PyData} (hj : Γ[j]? = some (some (tM K C a dx m))) (hl : m.fs.lookup f = some (tV (.ref l))) (hi : m.ls[i]? = some (l, ds)) (he : Gv Γ te (tD K d)) (hz : ds.length ≤ 1000) (hc : Cls K C) (hn : NoAttr K C f) (o : OFx j Γ) (fx : ∀ q ∈ m.fs, q.2.Fx) (hS : l ∈ S)
    (k : Go (Hm.fr H0 S) (Γ.set j (some (tM K C a dx ⟨m.fs, m.ls.set i (l, ds ++ [d])⟩))) D u) : Go (Hm.fr H0 S) Γ D (tSeq (tDrop (tBM K "list" rAppend (tFld K (tVar j) f) (tCons te tNil))) u) := m_app (D := { D with nx := u D }) hj hl hi he hz hc hn o fx hS k
end
end RP
set_option maxHeartbeats 4000000
namespace RP
open PySem PySem.Spec PyProof.Rows L2
theorem set_keys {ls : List (Addr × List PyData)} {i : Nat} {l : Addr} {ds ds' : List PyData} (hi : ls[i]? = some (l, ds)) : (ls.set i (l, ds')).map Prod.fst = ls.map Prod.fst := by
  apply List.ext_getElem?
  intro n
  rw [List.getElem?_map, List.getElem?_set, List.getElem?_map]
  by_cases q : i = n
  · subst q
    rw [if_pos rfl, hi]
    split <;> rename_i hlt
    · rfl
    · exact absurd (List.getElem?_eq_some_iff.mp hi).1 hlt
  · rw [if_neg q]
section
variable {K : PySem.W.Frag} {Γ Γ2 : Ctx} {M : Hm} {D : Ends} {u : TS} {te tv : TE} {t tk : TA} {C a dx : Addr} {m : Mo} {f g : Str} {P : Ty} {j : Nat} {H0 : Hp} {S : List Addr}
/-- a, b = self.f.pop() -/
theorem mq_pop {i n : Nat} {l : Addr} {ds es : List PyData} {gs : TGs} (hj : Γ[j]? = some (some (tM K C a dx m))) (hl : m.fs.lookup f = some (tV (.ref l))) (hi : m.ls[i]? = some (l, ds ++ [.tuple es])) (hc : Cls K C) (hn : NoAttr K C f) (o : OFx j Γ) (fx : ∀ q ∈ m.fs, q.2.Fx) (hS : l ∈ S) (hes : es.length = n)
    (hg : Gts (Γ.set j (some (tM K C a dx ⟨m.fs, m.ls.set i (l, ds)⟩))) gs (es.map (tD K)) Γ2) (k : Go (Hm.fr H0 S) Γ2 D u) : Go (Hm.fr H0 S) Γ D (tSeq (tAsg (tBM0 K "list" rPop (tFld K (tVar j) f)) (gTup K n gs)) u) := fun σ H mm s => by
  obtain ⟨v0, h1, e, ⟨us, h2, h3⟩, h4, h5⟩ := s.at_ j _ hj
  subst e
  obtain ⟨w0, h6, h7⟩ := h3.look hl
  obtain ⟨xs, hx, hd⟩ := h4.at_ hi
  obtain rfl : w0 = .ref l := h7
  have lx := hd.len
  rw [List.length_append, List.length_singleton] at lx
  have hlast : (ds ++ [PyData.tuple es])[ds.length]? = some (.tuple es) := by simp
  obtain ⟨y, hy, hyd⟩ := hd.get hlast
  refine ⟨_, h1, a, C, dx, us, _, rfl, h2, hc, hn, h6, .inl ⟨rfl, _, SqL.of hx⟩, l, xs, y, rfl, rfl, hx, by rw [lx]; exact hy, ?_⟩
  have im : Im H (upd H l (.lst xs.dropLast)) := .put hx fun z => z
  have nal : a ≠ l := fun z => by
    rw [z, hx] at h2
    cases h2
  have hdl : Dus K H xs.dropLast ds := by
    have z := hd.take ds.length
    rw [List.take_left' rfl] at z
    have e : xs.dropLast = xs.take ds.length := by
      rw [List.dropLast_eq_take, lx]
      rfl
    rw [e]
    exact z
  obtain ⟨b, ys, e, h8, h9⟩ := (Du.im im hyd).tup_inv
  have s2 : Sat (Γ.set j (some (tM K C a dx ⟨m.fs, m.ls.set i (l, ds)⟩))) σ (upd H l (.lst xs.dropLast)) := s.moved im o hj h1 ⟨rfl, ⟨us, by rw [upd_ne nal]; exact h2, h3.im im fx⟩, h4.set im (hdl.im im) h5 hi, by rw [set_keys hi]; exact h5⟩
  exact ⟨b, ys, e, h8, h9.len.trans hes, hg ys σ _ _ s2 (pv_data h9) fun σ' H' e' s' => k σ' H' ((Hm.fr H0 S).up e' (fr_put mm hS)) s'⟩
/-- self.f = [] -/
theorem mq_new (hj : Γ[j]? = some (some (tM K C a dx m))) (hc : Cls K C) (hn : NoAttr K C f) (o : OFx j Γ) (fx : ∀ q ∈ m.fs, q.2.Fx) (ns : List Str) (hns : m.fs.map (·.1) = ns) (hu : unfixed ns = true) (hS : a ∈ S) (hS2 : ∀ b ∈ S, b = a)
    (k : ∀ l, H0 l = none → Go (Hm.fr H0 S) (Γ.set j (some (tM K C a dx ⟨putT f (tV (.ref l)) m.fs, m.ls ++ [(l, [])]⟩))) D u) : Go (Hm.fr H0 S) Γ D (tSeq (sFld K (tVar j) (tLst tNil) f) u) := fun σ H mm s => ⟨Nat.zero_le _, fun l hl => by
  have e1 : Same H (upd H l (.lst [])) := same_new hl
  obtain ⟨v0, h1, e, ⟨us, h2, h3⟩, h4, h5⟩ := s.at_ j _ hj
  subst e
  have nal : a ≠ l := ne_of_none h2 hl
  have hl0 : H0 l = none := by
    cases q : H0 l with
    | none => rfl
    | some ob =>
      have := mm l ob (fun z => nal (hS2 l z).symm) q
      rw [hl] at this
      cases this
  subst hns
  have nm := h3.names
  obtain ⟨z1, z2⟩ := Bool.and_eq_true_iff.mp hu
  have z1 : ¬ m.fs.map (·.1) ∈ fixed := by simpa using z1
  have z2 : m.fs.length < 1000 := by
    have := of_decide_eq_true z2
    rw [List.length_map] at this
    exact this
  have lu : us.length = m.fs.length := by
    have := congrArg List.length nm
    simpa using this
  have h2' := e1 _ _ h2
  have im : Im (upd H l (.lst [])) (upd (upd H l (.lst [])) a (.ins C dx (putF f (.ref l) us))) := .put h2' fun q => z1 (by rw [← nm]; exact q)
  refine ⟨_, h1, a, C, dx, us, rfl, h2', hc, hn, by omega, k l hl0 σ _ (fr_put ((Hm.fr H0 S).up e1 mm) hS) ((s.up e1).moved im o hj h1 ⟨rfl, ⟨_, upd_same, ((h3.up e1).im im fx).put (P := tV (.ref l)) rfl⟩, ?_, ?_⟩)⟩
  · have old : Lsts K (upd (upd H l (.lst [])) a (.ins C dx (putF f (.ref l) us))) m.ls := (h4.up e1).fx im fun b xs hb e => by
      rw [upd_ne fun z => (h4.up e1).ins h2' (by rw [← z]; exact hb)]
      exact e
    have key : ∀ {ls : List (Addr × List PyData)}, Lsts K (upd (upd H l (.lst [])) a (.ins C dx (putF f (.ref l) us))) ls → Lsts K (upd (upd H l (.lst [])) a (.ins C dx (putF f (.ref l) us))) (ls ++ [(l, [])]) := fun L => by
      induction L with
      | nil => exact .cons (by rw [upd_ne nal.symm, upd_same]) .nil .nil
      | cons h d t ih => exact .cons h d ih
    exact key old
  · show ((m.ls ++ [(l, [])]).map Prod.fst).Nodup
    rw [List.map_append, List.nodup_append]
    refine ⟨h5, by simp, fun b hb c hc' => ?_⟩
    have e : c = l := by simpa using hc'
    rw [e]
    intro z
    have : ∀ {ls : List (Addr × List PyData)}, Lsts K H ls → l ∉ ls.map Prod.fst := fun L => by
      induction L with
      | nil => simp
      | @cons l0 ds0 xs0 r h d t ih =>
        intro hm
        rcases List.mem_cons.mp hm with q | q
        · have q : l = l0 := q
          rw [← q, hl] at h
          cases h
        · exact ih q
    exact this h4 (by rw [← z]; exact hb)⟩
/-- self.f = self.g = e -/
theorem mq_fld2 {te : TE} (hj : Γ[j]? = some (some (tM K C a dx m))) (he : ∀ σ H (Q : VK), Q .non H → te σ H Q) (pn : ∀ H, P.p .non H) (hc : Cls K C) (hn : NoAttr K C f) (hn2 : NoAttr K C g) (o : OFx j Γ) (fx : ∀ q ∈ m.fs, q.2.Fx) (pf : P.Fx) (ns : List Str) (hns : m.fs.map (·.1) = ns) (hu : unfixed ns = true) (hfg : (putT f P m.fs).map (·.1) = ns ++ [f]) (hu2 : unfixed (ns ++ [f]) = true) (hS : a ∈ S)
    (k : Go (Hm.fr H0 S) (Γ.set j (some (tM K C a dx ⟨putT g P (putT f P m.fs), m.ls⟩))) D u) : Go (Hm.fr H0 S) Γ D (tSeq (tAsg2 te (gFld K (tVar j) f) (gFld K (tVar j) g)) u) := fun σ H mm s => he σ H _ (by
  obtain ⟨v0, h1, e, ⟨us, h2, h3⟩, h4, h5⟩ := s.at_ j _ hj
  subst e
  subst hns
  have nm := h3.names
  obtain ⟨z1, z2⟩ := Bool.and_eq_true_iff.mp hu
  have z1 : ¬ m.fs.map (·.1) ∈ fixed := by simpa using z1
  have z2 : m.fs.length < 1000 := by
    have := of_decide_eq_true z2
    rw [List.length_map] at this
    exact this
  have lu : us.length = m.fs.length := by
    have := congrArg List.length nm
    simpa using this
  have im : Im H (upd H a (.ins C dx (putF f .non us))) := .put h2 fun q => z1 (by rw [← nm]; exact q)
  have h3' : Flds (upd H a (.ins C dx (putF f .non us))) (putF f .non us) (putT f P m.fs) := (h3.im im fx).put (pn _)
  have h4' : Lsts K (upd H a (.ins C dx (putF f .non us))) m.ls := h4.fx im fun l xs hl e => by
    rw [upd_ne fun z => h4.ins h2 (by rw [← z]; exact hl)]
    exact e
  refine ⟨_, h1, a, C, dx, us, rfl, h2, hc, hn, by omega, _, h1, a, C, dx, _, rfl, upd_same, hc, hn2, ?_, ?_⟩
  · have l1 := congrArg List.length h3'.names
    have l2 := congrArg List.length hfg
    simp only [List.length_map, List.length_append, List.length_singleton] at l1 l2
    have := of_decide_eq_true (Bool.and_eq_true_iff.mp hu2).2
    simp only [List.length_map, List.length_append, List.length_singleton] at this
    omega
  · obtain ⟨y1, y2⟩ := Bool.and_eq_true_iff.mp hu2
    have y1 : ¬ (m.fs.map (·.1) ++ [f]) ∈ fixed := by simpa using y1
    have im2 : Im (upd H a (.ins C dx (putF f .non us))) (upd (upd H a (.ins C dx (putF f .non us))) a (.ins C dx (putF g .non (putF f .non us)))) := .put upd_same fun q => y1 (by
      have q : (putF f V.non us).map (·.1) ∈ fixed := q
      rw [h3'.names, hfg] at q
      exact q)
    have fx2 : ∀ q ∈ putT f P m.fs, q.2.Fx := by
      have key : ∀ (fs : List (Str × Ty)), (∀ q ∈ fs, q.2.Fx) → ∀ q ∈ putT f P fs, q.2.Fx := by
        intro fs
        induction fs with
        | nil =>
          intro _ q hq
          have : q = (f, P) := by simpa [putT] using hq
          rw [this]
          exact @pf
        | cons r fs ih =>
          intro hf q hq
          unfold putT at hq
          split at hq
          · rcases List.mem_cons.mp hq with e | hq
            · rw [e]; exact @pf
            · exact hf q (List.mem_cons_of_mem _ hq)
          · rcases List.mem_cons.mp hq with e | hq
            · rw [e]; exact hf r (List.mem_cons_self ..)
            · exact ih (fun q hq => hf q (List.mem_cons_of_mem _ hq)) q hq
      exact key m.fs fx
    refine k σ _ (fr_put (fr_put mm hS) hS) (s.moved (im.trans im2) o hj h1 ⟨rfl, ⟨_, upd_same, (h3'.im im2 fx2).put (pn _)⟩, h4'.fx im2 fun l xs hl e => ?_, h5⟩)
    rw [upd_ne fun z => h4'.ins upd_same (by rw [← z]; exact hl)]
    exact e)
/-! ### methods that change their instance -/
/-- the promise: what it holds before, behind -/
def spM {ι : Type} (K : PySem.W.Frag) (Co : Addr) (Cd : ι → Prop) (ad : ι → Addr × Addr) (m1 m2 : ι → Mo) (Ps : ι → List Ty) : Sp := fun vs H Q _ => ∃ i ws, Cd i ∧ vs = .ref (ad i).1 :: ws ∧ (tM K Co (ad i).1 (ad i).2 (m1 i)).p (.ref (ad i).1) H ∧ Pv H (Ps i) ws ∧
  ∀ H', (∀ b o, b ∉ (m1 i).adr (ad i).1 → H b = some o → H' b = some o) → (tM K Co (ad i).1 (ad i).2 (m2 i)).p (.ref (ad i).1) H' → Q .non H'
theorem gm_call {ι : Type} {Co : Addr} {Cd : ι → Prop} {ad : ι → Addr × Addr} {m1 m2 : ι → Mo} {Ps : ι → List Ty} {Qs : List Ty} {mn : Str} (i : ι) (hj : Γ[j]? = some (some (tM K Co (ad i).1 (ad i).2 (m1 i)))) (hn : (m1 i).fs.lookup mn = none) (hs : Ga Γ t Qs) (e : Ps i = Qs) (c : Cd i) (o : OFx j Γ) (hS : ∀ b ∈ (m1 i).adr (ad i).1, b ∈ S)
    (im : ∀ H H', (tM K Co (ad i).1 (ad i).2 (m1 i)).p (.ref (ad i).1) H → (∀ b o, b ∉ (m1 i).adr (ad i).1 → H b = some o → H' b = some o) → Im H H')
    (k : Nx (Hm.fr H0 S) (Γ.set j (some (tM K Co (ad i).1 (ad i).2 (m2 i)))) D.nx) : Go (Hm.fr H0 S) Γ D (tDrop (tMeth Co mn (spM K Co Cd ad m1 m2 Ps) [] E0 (tVar j) t)) := fun σ H mm s => by
  obtain ⟨v0, h1, hv⟩ := s.at_ j _ hj
  obtain ⟨e0, ⟨us, h2, h3⟩, h4, h5⟩ := id hv
  subst e0
  refine ⟨_, h1, (ad i).1, (ad i).2, us, rfl, h2, h3.none hn, hs σ H _ s fun ws H1 e1 h6 => ⟨i, ws, c, by rw [List.append_nil], (tM K Co (ad i).1 (ad i).2 (m1 i)).up e1 hv, by rw [e]; exact h6, fun H' kp h7 => ?_⟩⟩
  exact k σ H' (fun b ob n q => kp b ob (fun z => n (hS b z)) (e1 _ _ (mm b ob n q))) ((s.up e1).moved (im H1 H' ((tM K Co (ad i).1 (ad i).2 (m1 i)).up e1 hv) kp) o hj h1 h7)
/-- a change of the instance and its lists alone keeps what never changes -/
theorem mo_im {Co : Addr} {m : Mo} {H H' : Hp} (hu : m.fs.map (·.1) ∉ fixed) (h : (tM K Co a dx m).p (.ref a) H) (kp : ∀ b o, b ∉ m.adr a → H b = some o → H' b = some o) : Im H H' := fun b o e f => by
  obtain ⟨_, ⟨us, h2, h3⟩, h4, _⟩ := h
  refine kp b o (fun hb => ?_) e
  rcases List.mem_cons.mp hb with z | hb
  · rw [z, h2] at e
    cases e
    have f : us.map (·.1) ∈ fixed := f
    rw [h3.names] at f
    exact hu f
  · have : ∀ {ls : List (Addr × List PyData)}, Lsts K H ls → b ∈ ls.map Prod.fst → ∃ xs, H b = some (.lst xs) := fun L => by
      induction L with
      | nil => intro hm; cases hm
      | @cons l0 ds0 xs0 r h d t ih =>
        intro hm
        rcases List.mem_cons.mp hm with q | q
        · have q : b = l0 := q
          rw [q]
          exact ⟨_, h⟩
        · exact ih q
    obtain ⟨xs, hx⟩ := this h4 hb
    rw [hx] at e
    cases e
    exact f
end
section
variable {P : Program} {w : World} {K : PySem.W.Frag} {mg : Str → Option Value} {base : Heap} {x qual : Str} {params : Arguments} {body : List Stmt} {scope : Scope} {dvs : List V} {kws : List (Str × V)} {f : Addr} {fd : FuncData}
theorem mut_ok {ι : Type} {Co : Addr} {Cd : ι → Prop} {ad : ι → Addr × Addr} {m1 m2 : ι → Mo} {Ps : ι → List Ty} {N ps : List Str} {k : Nat} (F : FunD K x qual params body scope dvs kws f fd) (S : FnScope N ps scope) (hl : ∀ i, (Ps i).length + 1 = ps.length)
    (hb : ∀ (cdv : Value) (A : Around) (outer : List Env) (s : Shared) (H : Hp) (E : XK) (i : ι), Room k (A.deeper (envOfC qual scope s.heap.objs.size f cdv)) → Cd i →
      ∃ t, PSs (cxOf CX0 P w K mg base N qual scope f cdv A outer s H E).nox body t ∧ ∀ (D : Ends), (∀ σ H', (Hm.fr H ((m1 i).adr (ad i).1)).p H' → (tM K Co (ad i).1 (ad i).2 (m2 i)).p (.ref (ad i).1) H' → D.nx σ H') →
        Go (Hm.fr H ((m1 i).adr (ad i).1)) (ent N (tM K Co (ad i).1 (ad i).2 (m1 i) :: Ps i)) D t) :
    FnOk P w K mg base CX0 (k + 1) f fd ps (spM K Co Cd ad m1 m2 Ps) := by
  refine F.ok S (fun vs H Q E ⟨i, ws, _, e, _, h, _⟩ => by rw [e, List.length_cons, h.len]; exact hl i) fun cdv A outer s H vs Q E hr ⟨i, ws, c, e, hm, h, q⟩ => ?_
  obtain ⟨t, ht, hg⟩ := hb cdv A outer s H E i hr c
  refine ⟨t, ht.nox, hg { nx := fun _ H' => Q .non H', rt := Q } (fun σ H' m r => q H' m r) _ H (fun b o _ e => e) ?_⟩
  rw [e]
  exact (Pv.cons hm h).ent
/-- __init__ of such an instance: as the addresses of its lists may be -/
def spIM {ι : Type} (K : PySem.W.Frag) (Co : Addr) (Cd : ι → Prop) (n : Nat) (mo : ι → List Addr → Mo) (Ps : ι → List Ty) : Sp := fun vs H Q _ => ∃ i a dx ws, Cd i ∧ vs = .ref a :: ws ∧ H a = some (.ins Co dx []) ∧ Pv H (Ps i) ws ∧
  ∀ H' (ls : List Addr), ls.length = n → (∀ l ∈ ls, H l = none) → (∀ b o, b ≠ a → H b = some o → H' b = some o) → (tM K Co a dx (mo i ls)).p (.ref a) H' → Q .non H'
theorem initM_ok {ι : Type} {Co : Addr} {Cd : ι → Prop} {n : Nat} {mo : ι → List Addr → Mo} {Ps : ι → List Ty} {N ps : List Str} {k : Nat} (F : FunD K x qual params body scope dvs kws f fd) (S : FnScope N ps scope) (hl : ∀ i, (Ps i).length + 1 = ps.length)
    (hb : ∀ (cdv : Value) (A : Around) (outer : List Env) (s : Shared) (H : Hp) (E : XK) (i : ι), Room k (A.deeper (envOfC qual scope s.heap.objs.size f cdv)) → Cd i →
      ∃ t, PSs (cxOf CX0 P w K mg base N qual scope f cdv A outer s H E).nox body t ∧ ∀ (a dx : Addr) (D : Ends), (∀ σ H' (ls : List Addr), ls.length = n → (∀ l ∈ ls, H l = none) → (Hm.fr H [a]).p H' → (tM K Co a dx (mo i ls)).p (.ref a) H' → D.nx σ H') →
        Go (Hm.fr H [a]) (ent N (tM K Co a dx ⟨[], []⟩ :: Ps i)) D t) :
    FnOk P w K mg base CX0 (k + 1) f fd ps (spIM K Co Cd n mo Ps) := by
  refine F.ok S (fun vs H Q E ⟨i, a, dx, ws, _, e, _, h, _⟩ => by rw [e, List.length_cons, h.len]; exact hl i) fun cdv A outer s H vs Q E hr ⟨i, a, dx, ws, c, e, ha, h, q⟩ => ?_
  obtain ⟨t, ht, hg⟩ := hb cdv A outer s H E i hr c
  refine ⟨t, ht.nox, hg a dx { nx := fun _ H' => Q .non H', rt := Q } (fun σ H' ls l1 l2 m r => q H' ls l1 l2 (fun b o n e => m b o (by simpa using n) e) r) _ H (fun b o _ e => e) ?_⟩
  rw [e]
  exact (Pv.cons (P := tM K Co a dx ⟨[], []⟩) ⟨rfl, ⟨[], ha, .nil⟩, .nil, by simp⟩ h).ent
end
end RP
set_option maxHeartbeats 4000000
namespace RP
open PySem PySem.Spec PyProof.Rows L2
section
variable {K : PySem.W.Frag} {Γ Γ2 : Ctx} {M : Hm} {D : Ends} {u tb : TS} {te tv : TE} {t tk : TA} {Co a dx : Addr} {m : Mo} {f g mn : Str} {j : Nat} {ι : Type} {C : ι → Prop} {Ps : ι → List Ty} {R : ι → Ty} {Qs Zs : List Ty}
theorem gv_fldL {i : Nat} {l : Addr} {ds : List PyData} (hj : Γ[j]? = some (some (tM K Co a dx m))) (hc : Cls K Co) (hn : NoAttr K Co f) (hl : m.fs.lookup f = some (tV (.ref l))) (hi : m.ls[i]? = some (l, ds)) : Gv Γ (tFld K (tVar j) f) (tL K ds) := fun σ H Q s q => by
  obtain ⟨v, h1, e, ⟨us, h2, h3⟩, h6, _⟩ := s.at_ j _ hj
  obtain ⟨x, h4, h5⟩ := h3.look hl
  obtain ⟨xs, hx, hd⟩ := h6.at_ hi
  obtain rfl : x = .ref l := h5
  exact ⟨v, h1, a, Co, dx, us, _, e, h2, hc, hn, h4, q _ H (.refl H) ⟨l, xs, rfl, SqL.of hx, hd⟩⟩
theorem gv_methM (i : ι) (hj : Γ[j]? = some (some (tM K Co a dx m))) (hn : m.fs.lookup mn = none) (hs : Ga Γ t Qs) (e : Ps i = tM K Co a dx m :: Qs) (c : C i) : Gv Γ (tMeth Co mn (spP C Ps R) [] E0 (tVar j) t) (R i) := fun σ H Q s q => by
  obtain ⟨v, h1, hv⟩ := s.at_ j _ hj
  obtain ⟨e0, ⟨us, h2, h3⟩, _⟩ := id hv
  subst e0
  exact ⟨_, h1, a, dx, us, rfl, h2, h3.none hn, hs σ H _ s fun ws H2 e2 h4 => ⟨i, c, by rw [e, List.append_nil]; exact .cons ((tM K Co a dx m).up e2 hv) h4, fun v H' e3 hv => q v H' (e2.trans e3) hv⟩⟩
/-- x = C(..), an instance that changes -/
theorem q_makeM {κ : Type} {Cd : κ → Prop} {Pk : κ → List Ty} {mo : κ → List Addr → Mo} {nl n k' i : Nat} {gV : List V → List V → List V} (ix : κ) (hs : Ga Γ t Qs) (hz : Ga Γ tk Zs) (hn : Qs.length = n) (hm : Zs.length = k')
    (hg : ∀ x vs zs, ∃ r, gV (x :: vs) zs = x :: r ∧ ∀ H, Pv H Qs vs → Pv H Zs zs → Pv H (Pk ix) r) (c : Cd ix)
    (k : ∀ H0 a dx ls, ls.length = nl → M.p H0 → (∀ b ∈ a :: ls, H0 b = none) → Go (Hm.fr H0 (a :: ls)) (Γ.set i (some (tM K Co a dx (mo ix ls)))) D u) :
    Go M Γ D (tSeq (tAsg (tMakeK Co n k' (spIM K Co Cd nl mo Pk) gV E0 t tk) (gName i)) u) := fun σ H mm s =>
  hs σ H _ s fun vs H1 e1 h1 => hz σ H1 _ (s.up e1) fun zs H2 e2 h2 => ⟨h1.len.trans hn, h2.len.trans hm, fun x dx nx nd _ => by
    obtain ⟨r, g1, g2⟩ := hg (.ref x) vs zs
    refine ⟨ix, x, dx, r, c, g1, upd_same, g2 _ ((h1.up e2).up (made_up nx nd)) (h2.up (made_up nx nd)), fun H' ls ll ln kp tm => ⟨rfl, ?_⟩⟩
    refine k H2 x dx ls ll (M.up (e1.trans e2) mm) (fun b hb => ?_) _ H' (fun b o hb he => made_same nx nd kp b o he) (((s.up e1).up e2).up (made_same nx nd kp) |>.set i tm)
    rcases List.mem_cons.mp hb with q | q
    · rw [q]; exact nx
    · have z := ln b q
      by_cases q1 : b = x
      · rw [q1]; exact nx
      · rw [upd_ne q1] at z
        by_cases q2 : b = dx
        · rw [q2]; exact nd
        · rw [upd_ne q2] at z
          exact z⟩
theorem fr_same {H0 H : Hp} {S : List Addr} (h : (Hm.fr H0 S).p H) (n : ∀ b ∈ S, H0 b = none) : Same H0 H := fun b o e => h b o (fun q => by rw [n b q] at e; cases e) e
theorem Rt.fr {R : Ty} {H0 : Hp} {S : List Addr} (r : Rt R M D) (h : M.p H0) (n : ∀ b ∈ S, H0 b = none) : Rt R (Hm.fr H0 S) D := r.le fun H q => M.up (fr_same q n) h
/-- a while: as a state of its names goes -/
theorem q_while {α : Type} {c : TT} (Γs : α → Ctx) (C : α → Prop) (mu : α → Nat) (b : α → Bool) (x0 : α) (c0 : C x0) (h0 : Γ = Γs x0) (hc : ∀ x, C x → Gb (Γs x) c (b x))
    (hs : ∀ x, C x → b x = true → ∀ nx : L2.St → Hp → Prop, (∀ y, C y → mu y < mu x → Nx M (Γs y) nx) → Go M (Γs x) { D with nx := nx, ct := nx, bk := u D } tb)
    (hd : ∀ x, C x → b x = false → Go M (Γs x) D u) : Go M Γ D (tSeq (tWhile c tb) u) := fun σ H mm s => by
  subst h0
  refine ⟨fun n σ H => M.p H ∧ ∃ x, C x ∧ mu x = n ∧ Sat (Γs x) σ H, ⟨_, mm, x0, c0, rfl, s⟩, fun n σ1 H1 w => ?_⟩
  obtain ⟨m1, x, cx, e, s1⟩ := w
  refine hc x cx σ1 H1 _ s1 fun H2 e2 => ?_
  cases hb : b x with
  | true =>
    rw [if_pos rfl]
    refine ⟨fun σ' H' => M.p H' ∧ ∃ y, C y ∧ mu y < mu x ∧ Sat (Γs y) σ' H', fun σ' H' ⟨m', y, cy, ly, sy⟩ => ⟨mu y, by rw [← e]; exact ly, m', y, cy, rfl, sy⟩, ?_⟩
    exact hs x cx hb _ (fun y cy ly σ' H' m' s' => ⟨m', y, cy, ly, s'⟩) σ1 H2 (M.up e2 m1) (s1.up e2)
  | false =>
    rw [if_neg (by decide)]
    exact hd x cx hb σ1 H2 (M.up e2 m1) (s1.up e2)
end
section
variable {K : PySem.W.Frag} {Γ : Ctx} {D : Ends} {C a dx : Addr} {m : Mo} {f : Str} {j : Nat} {H0 : Hp} {S : List Addr}
/-- the same, last -/
theorem m_new (hj : Γ[j]? = some (some (tM K C a dx m))) (hc : Cls K C) (hn : NoAttr K C f) (o : OFx j Γ) (fx : ∀ q ∈ m.fs, q.2.Fx) (ns : List Str) (hns : m.fs.map (·.1) = ns) (hu : unfixed ns = true) (hS : a ∈ S) (hS2 : ∀ b ∈ S, b = a)
    (k : ∀ l, H0 l = none → Nx (Hm.fr H0 S) (Γ.set j (some (tM K C a dx ⟨putT f (tV (.ref l)) m.fs, m.ls ++ [(l, [])]⟩))) D.nx) : Go (Hm.fr H0 S) Γ D (sFld K (tVar j) (tLst tNil) f) := fun σ H mm s => ⟨Nat.zero_le _, fun l hl => by
  have e1 : Same H (upd H l (.lst [])) := same_new hl
  obtain ⟨v0, h1, e, ⟨us, h2, h3⟩, h4, h5⟩ := s.at_ j _ hj
  subst e
  have nal : a ≠ l := ne_of_none h2 hl
  have hl0 : H0 l = none := by
    cases q : H0 l with
    | none => rfl
    | some ob =>
      have := mm l ob (fun z => nal (hS2 l z).symm) q
      rw [hl] at this
      cases this
  subst hns
  have nm := h3.names
  obtain ⟨z1, z2⟩ := Bool.and_eq_true_iff.mp hu
  have z1 : ¬ m.fs.map (·.1) ∈ fixed := by simpa using z1
  have z2 : m.fs.length < 1000 := by
    have := of_decide_eq_true z2
    rw [List.length_map] at this
    exact this
  have lu : us.length = m.fs.length := by
    have := congrArg List.length nm
    simpa using this
  have h2' := e1 _ _ h2
  have im : Im (upd H l (.lst [])) (upd (upd H l (.lst [])) a (.ins C dx (putF f (.ref l) us))) := .put h2' fun q => z1 (by rw [← nm]; exact q)
  refine ⟨_, h1, a, C, dx, us, rfl, h2', hc, hn, by omega, k l hl0 σ _ (fr_put ((Hm.fr H0 S).up e1 mm) hS) ((s.up e1).moved im o hj h1 ⟨rfl, ⟨_, upd_same, ((h3.up e1).im im fx).put (P := tV (.ref l)) rfl⟩, ?_, ?_⟩)⟩
  · have old : Lsts K (upd (upd H l (.lst [])) a (.ins C dx (putF f (.ref l) us))) m.ls := (h4.up e1).fx im fun b xs hb e => by
      rw [upd_ne fun z => (h4.up e1).ins h2' (by rw [← z]; exact hb)]
      exact e
    have key : ∀ {ls : List (Addr × List PyData)}, Lsts K (upd (upd H l (.lst [])) a (.ins C dx (putF f (.ref l) us))) ls → Lsts K (upd (upd H l (.lst [])) a (.ins C dx (putF f (.ref l) us))) (ls ++ [(l, [])]) := fun L => by
      induction L with
      | nil => exact .cons (by rw [upd_ne nal.symm, upd_same]) .nil .nil
      | cons h d t ih => exact .cons h d ih
    exact key old
  · show ((m.ls ++ [(l, [])]).map Prod.fst).Nodup
    rw [List.map_append, List.nodup_append]
    refine ⟨h5, by simp, fun b hb c hc' => ?_⟩
    have e : c = l := by simpa using hc'
    rw [e]
    intro z
    have : ∀ {ls : List (Addr × List PyData)}, Lsts K H ls → l ∉ ls.map Prod.fst := fun L => by
      induction L with
      | nil => simp
      | @cons l0 ds0 xs0 r h d t ih =>
        intro hm
        rcases List.mem_cons.mp hm with q | q
        · have q : l = l0 := q
          rw [← q, hl] at h
          cases h
        · exact ih q
    exact this h4 (by rw [← z]; exact hb)⟩
end
end RP
set_option maxHeartbeats 4000000
namespace RP
open PySem PySem.Spec PyProof.Rows L2
/-! ### the deck: drawing in the midst of an expression -/
def SameD (a l : Addr) (H H' : Hp) : Prop := ∀ b o, b ≠ a → b ≠ l → H b = some o → H' b = some o
def Deck (a l : Addr) (c : Nat) (H : Hp) : Prop := ∃ (cs : List Int) (sd ct : Int), H a = some (.lst [.ref l, .int sd, .int ct]) ∧ H l = some (.lst (cs.map V.int)) ∧ 0 ≤ ct ∧ ct ≤ c ∧ cs.length ≤ 1000
section
variable {a l : Addr} {H H' H1 : Hp} {c c' : Nat}
theorem Deck.up (e : Same H H') : Deck a l c H → Deck a l c H' := fun ⟨cs, sd, ct, h1, h2, h3⟩ => ⟨cs, sd, ct, e _ _ h1, e _ _ h2, h3⟩
theorem Deck.mono (h : c ≤ c') : Deck a l c H → Deck a l c' H := fun ⟨cs, sd, ct, h1, h2, h3, h4, h5⟩ => ⟨cs, sd, ct, h1, h2, h3, by omega, h5⟩
theorem SameD.refl (H : Hp) : SameD a l H H := fun _ _ _ _ e => e
theorem SameD.of (e : Same H H') : SameD a l H H' := fun b o _ _ h => e b o h
theorem SameD.trans (x : SameD a l H H1) (y : SameD a l H1 H') : SameD a l H H' := fun b o n m e => y b o n m (x b o n m e)
theorem SameD.im (x : SameD a l H H') (d : Deck a l c H) : Im H H' := fun b o e f => by
  obtain ⟨cs, sd, ct, h1, h2, _⟩ := d
  refine x b o (fun z => ?_) (fun z => ?_) e
  · rw [z, h1] at e; cases e; exact f
  · rw [z, h2] at e; cases e; exact f
/-- what the names hold never changes -/
theorem CtxFx.sat {Γ : Ctx} {σ : L2.St} (g : CtxFx Γ) (s : Sat Γ σ H) (e : Im H H') : Sat Γ σ H' := ⟨s.len, fun i P h => by
  obtain ⟨v, h1, h2⟩ := s.at_ i P h
  exact ⟨v, h1, g.at_ h e h2⟩⟩
end
/-- te draws at most n times, gives a P -/
def Gx (a l : Addr) (n : Nat) (Γ : Ctx) (te : TE) (P : Ty) : Prop := ∀ (σ : L2.St) (H : Hp) (Q : VK) (c : Nat), Sat Γ σ H → Deck a l c H → c + n ≤ 1000000 → (∀ v H', SameD a l H H' → Deck a l (c + n) H' → P.p v H' → Q v H') → te σ H Q
def Gxa (a l : Addr) (n : Nat) (Γ : Ctx) (ts : TA) (Ps : List Ty) : Prop := ∀ (σ : L2.St) (H : Hp) (Q : List V → Hp → Prop) (c : Nat), Sat Γ σ H → Deck a l c H → c + n ≤ 1000000 → (∀ vs H', SameD a l H H' → Deck a l (c + n) H' → Pv H' Ps vs → Q vs H') → ts σ H Q
section
variable {K : PySem.W.Frag} {Γ : Ctx} {ta tb te : TE} {ts : TA} {A B P P' : Ty} {Ps : List Ty} {a l : Addr} {n m : Nat}
theorem gx_of (h : Gv Γ te P) : Gx a l 0 Γ te P := fun σ H Q c s d _ q => h σ H Q s fun v H' e hv => q v H' (.of e) (d.up e) hv
theorem Gx.le (h : Gx a l n Γ te P) (k : ∀ v H, P.p v H → P'.p v H) : Gx a l n Γ te P' := fun σ H Q c s d b q => h σ H Q c s d b fun v H' e d' hv => q v H' e d' (k v H' hv)
theorem Gx.mono (h : Gx a l n Γ te P) (k : n ≤ m) : Gx a l m Γ te P := fun σ H Q c s d b q => h σ H Q c s d (by omega) fun v H' e d' hv => q v H' e (d'.mono (by omega)) hv
theorem gx_op {r : R2} (g : CtxFx Γ) (fx : A.Fx) (ha : Gx a l n Γ ta A) (hb : Gx a l m Γ tb B) (hr : G2 r A B P) : Gx a l (n + m) Γ (tOp r ta tb) P := fun σ H Q c s d b q =>
  ha σ H _ c s d (by omega) fun x H1 e1 d1 hx => hb σ H1 _ (c + n) (g.sat s (e1.im d)) d1 (by omega) fun y H2 e2 d2 hy => hr x y H2 Q (fx (e2.im d1) hx) hy fun v H3 e3 hv =>
    q v H3 ((e1.trans e2).trans (.of e3)) ((d2.mono (by omega)).up e3) hv
theorem gxa_nil : Gxa a l 0 Γ tNil [] := fun σ H Q c s d _ q => q [] H (.refl H) d .nil
theorem gxa_cons (g : CtxFx Γ) (fx : A.Fx) (ha : Gx a l n Γ ta A) (hs : Gxa a l m Γ ts Ps) : Gxa a l (n + m) Γ (tCons ta ts) (A :: Ps) := fun σ H Q c s d b q =>
  ha σ H _ c s d (by omega) fun x H1 e1 d1 hx => hs σ H1 _ (c + n) (g.sat s (e1.im d)) d1 (by omega) fun xs H2 e2 d2 hxs => q (x :: xs) H2 (e1.trans e2) (d2.mono (by omega)) (.cons (fx (e2.im d1) hx) hxs)
theorem gxa_of (h : Ga Γ ts Ps) : Gxa a l 0 Γ ts Ps := fun σ H Q c s d _ q => h σ H Q s fun v H' e hv => q v H' (.of e) (d.up e) hv
theorem gx_cb {r : List V → Hp → VK → Prop} (hs : Gxa a l n Γ ts Ps) (hr : Gc r Ps P) : Gx a l n Γ (tCB r ts) P := fun σ H Q c s d b q =>
  hs σ H _ c s d b fun vs H1 e1 d1 h1 => hr vs H1 Q h1 fun v H2 e2 hv => q v H2 (e1.trans (.of e2)) (d1.up e2) hv
/-- some of many whole numbers -/
abbrev tI (K : PySem.W.Frag) (C : Int → Prop) : Ty := tE C (fun i => tD K (.int i))
theorem tE_fx {ι : Type} {C : ι → Prop} {P : ι → Ty} (h : ∀ i, (P i).Fx) : (tE C P).Fx := fun e ⟨x, c, hx⟩ => ⟨x, c, h x e hx⟩
theorem tI_fx {C : Int → Prop} : (tI K C).Fx := tE_fx fun _ => tD_fx
theorem gx_i0 {f : Int → Int → Int} {C1 C2 C3 : Int → Prop} (g : CtxFx Γ) (ha : Gx a l n Γ ta (tI K C1)) (hb : Gx a l m Γ tb (tI K C2)) (h : ∀ i j, C1 i → C2 j → C3 (f i j)) : Gx a l (n + m) Γ (tOp (rI0 fun i j => .int (f i j)) ta tb) (tI K C3) :=
  gx_op g tI_fx ha hb fun x y H Q ⟨i, c1, hx⟩ ⟨j, c2, hy⟩ q => (g2_I0 (fun _ => .int _) : G2 (rI0 fun i j => .int (f i j)) (tD K (.int i)) (tD K (.int j)) (tD K (.int (f i j)))) x y H Q hx hy fun v H' e hv => q v H' e ⟨_, h i j c1 c2, hv⟩
theorem gx_int {i : Int} {C : Int → Prop} (c : C i) : Gx a l 0 Γ (tC (.int i)) (tI K C) := gx_of (gv_int.to fun v H h => ⟨i, c, h⟩)
theorem gx_iv {i : Int} {C : Int → Prop} (h : Gv Γ te (tD K (.int i))) (c : C i) : Gx a l 0 Γ te (tI K C) := gx_of (h.to fun v H h => ⟨i, c, h⟩)
/-- [e for x in ..], drawing -/
theorem gx_lc {ι : Type} {C : ι → Prop} {f : ι → PyData} {wi : TI} {j : Nat} {T : Nat → Ty} (g : CtxFx Γ) (tf : ∀ i, (T i).Fx) (hi : Gi Γ wi n T) (hz : n ≤ 1000)
    (he : ∀ i, i < n → Gx a l m ((Γ.set j none).set j (some (T i))) te (tE C fun x => tD K (f x))) :
    Gx a l (n * m) Γ (tLc wi (gName j) tYes te [j]) (tE (fun is : List ι => is.length = n ∧ ∀ x ∈ is, C x) fun is => tL K (is.map f)) := fun σ H Q c s d b q => hi σ H _ s fun J H1 G e1 hG w Dl hD => by
  have d1 := d.up e1
  have na : Dl ≠ a := fun z => by obtain ⟨_, _, _, h1, _⟩ := d1; rw [← z, hD] at h1; cases h1
  have nl : Dl ≠ l := fun z => by obtain ⟨_, _, _, _, h1, _⟩ := d1; rw [← z, hD] at h1; cases h1
  refine lc_it w (fun i H' => SameD a l H1 H' ∧ Deck a l (c + i * m) H' ∧ ∃ (is : List ι) (acc : List V), H' Dl = some (.lst acc) ∧ Dus K H' acc (is.map f) ∧ is.length = i ∧ ∀ x ∈ is, C x) ⟨.of (same_new hD), (d1.mono (by omega)).up (same_new hD), [], [], upd_same, .nil, rfl, fun _ h => nomatch h⟩
    (fun i H' _ p => hG H' (p.1.im d1)) (fun i x H' H'' hin p y => ?_) (fun H' p => ?_)
  · obtain ⟨y1, y2⟩ := y
    obtain ⟨p1, pd, is, acc, p2, p3, p4, p5⟩ := p
    have im1 : Im H H'' := ((Im.of e1).trans (p1.im d1)).trans (.of y1)
    have s1 : Sat ((Γ.set j none).set j (some (T i))) ((wipe σ [j]).set j (some x)) H'' := (sat_wipe (g.sat s im1) [j]).set j (y2 hG (p1.im d1))
    refine ⟨wipe1 (σ := σ) (j := j) (x := x), ?_⟩
    unfold tYes
    have hb : c + i * m + m ≤ c + n * m := by
      have : (i + 1) * m ≤ n * m := Nat.mul_le_mul_right m hin
      rw [Nat.succ_mul] at this
      omega
    refine iteT (he i hin _ _ _ (c + i * m) s1 (pd.up y1) (by omega) fun v H4 e4 d4 hv => ?_)
    obtain ⟨z, cz, hz'⟩ := hv
    have im4 := e4.im (pd.up y1)
    have p2' : H4 Dl = some (.lst acc) := e4 _ _ na nl (y1 _ _ p2)
    have im : Im H4 (upd H4 Dl (.lst (acc ++ [v]))) := .put p2' (fun z => z)
    refine ⟨acc, p2', ?_, ⟨fun b o m1 m2 e => ?_, ?_, is ++ [z], acc ++ [v], upd_same, ?_, ?_, ?_⟩⟩
    · have ll := p3.len
      rw [List.length_map] at ll
      exact small1000 (by omega)
    · rw [upd_ne (ne_of_none e hD)]
      exact e4 _ _ m1 m2 (y1 _ _ (p1 _ _ m1 m2 e))
    · obtain ⟨cs, sd, ct, h1, h2, h3, h4, h5⟩ := d4
      refine ⟨cs, sd, ct, by rw [upd_ne na.symm]; exact h1, by rw [upd_ne nl.symm]; exact h2, h3, ?_, h5⟩
      rw [Nat.succ_mul]
      omega
    · rw [List.map_append]
      exact Dus.append (p3.im (((Im.of y1).trans im4).trans im)) (.cons (Du.im im hz') .nil)
    · rw [List.length_append, p4]; rfl
    · intro x hx
      rcases List.mem_append.mp hx with hx | hx
      · exact p5 x hx
      · have : x = z := by simpa using hx
        rw [this]; exact cz
  · obtain ⟨p1, pd, is, acc, p2, p3, p4, p5⟩ := p
    exact q _ H' ((SameD.of e1).trans p1) pd ⟨is, ⟨p4, p5⟩, Dl, acc, rfl, SqL.of p2, p3⟩
/-- tuple(..) of such a list -/
theorem gc_tupE {ι : Type} {C : ι → Prop} {f : ι → List PyData} : Gc (rTupOf K) [tE C fun i => tL K (f i)] (tE C fun i => tD K (.tuple (f i))) := fun vs H Q hv q => by
  obtain ⟨v, rfl, x, c, h⟩ := hv.one
  exact gc_tupL (K := K) (ds := f x) [v] H Q (.cons h .nil) fun w H' e hw => q w H' e ⟨x, c, hw⟩
/-! statements -/
def Hm.dk (H0 : Hp) (a l : Addr) (c : Nat) : Hm := ⟨fun H => SameD a l H0 H ∧ Deck a l c H, fun e h => ⟨h.1.trans (.of e), h.2.up e⟩⟩
theorem qx_set {H0 : Hp} {c i : Nat} {D : Ends} {u : TS} (g : CtxFx Γ) (h : Gx a l n Γ te P) (b : c + n ≤ 1000000) (k : Go (Hm.dk H0 a l (c + n)) (Γ.set i (some P)) D u) : Go (Hm.dk H0 a l c) Γ D (tSeq (tAsg te (gName i)) u) := fun σ H m s =>
  h σ H _ c s m.2 b fun v H' e d hv => k _ H' ⟨m.1.trans e, d⟩ ((g.sat s (e.im m.2)).set i hv)
theorem qx_open {ι : Type} {C : ι → Prop} {Q : ι → Ty} {M : Hm} {D : Ends} {t : TS} {i : Nat} (h : Γ[i]? = some (some (tE C Q))) (k : ∀ x, C x → Go M (Γ.set i (some (Q x))) D t) : Go M Γ D t := go_open h k
theorem gox_ret {H0 : Hp} {c : Nat} {D : Ends} (h : Gx a l n Γ te P) (b : c + n ≤ 1000000) (k : ∀ v H, SameD a l H0 H → Deck a l (c + n) H → P.p v H → D.rt v H) : Go (Hm.dk H0 a l c) Γ D (tRet te) := fun σ H m s =>
  h σ H _ c s m.2 b fun v H' e d hv => k v H' (m.1.trans e) d hv
/-- a def that draws at most n times -/
def spX {ι : Type} (C : ι → Prop) (n : Nat) (Ps : ι → List Ty) (R : ι → Ty) : Sp := fun vs H Q _ => ∃ i a l c ws, C i ∧ vs = .ref a :: ws ∧ Pv H (Ps i) ws ∧ Deck a l c H ∧ c + n ≤ 1000000 ∧ ∀ v H', SameD a l H H' → Deck a l (c + n) H' → (R i).p v H' → Q v H'
theorem gx_call {ι : Type} {C : ι → Prop} {Pk : ι → List Ty} {R : ι → Ty} {i : Nat} (x : ι) (hi : Γ[i]? = some (some (tV (.ref a)))) (hs : Ga Γ ts Ps) (e : Pk x = Ps) (c : C x) : Gx a l n Γ (tCall (spX C n Pk R) [] E0 (tCons (tVar i) ts)) (R x) := fun σ H Q cc s d b q => by
  obtain ⟨v, h1, h2⟩ := s.at_ i _ hi
  obtain rfl : v = .ref a := h2
  refine ⟨_, h1, hs σ H _ s fun ws H1 e1 h4 => ⟨x, a, l, cc, ws, c, by rw [List.append_nil], by rw [e]; exact h4, d.up e1, b, fun v H' e3 d3 hv => q v H' ((SameD.of e1).trans e3) d3 hv⟩⟩
end
section
variable {P : Program} {w : World} {K : PySem.W.Frag} {mg : Str → Option Value} {base : Heap} {x qual : Str} {params : Arguments} {body : List Stmt} {scope : Scope} {dvs : List V} {kws : List (Str × V)} {f : Addr} {fd : FuncData}
theorem draw_ok {ι : Type} {C : ι → Prop} {n : Nat} {Ps : ι → List Ty} {R : ι → Ty} {N ps : List Str} {k : Nat} (F : FunD K x qual params body scope dvs kws f fd) (S : FnScope N ps scope) (hl : ∀ i, (Ps i).length + 1 = ps.length)
    (hb : ∀ (cdv : Value) (A : Around) (outer : List Env) (s : Shared) (H : Hp) (E : XK) (i : ι), Room k (A.deeper (envOfC qual scope s.heap.objs.size f cdv)) → C i →
      ∃ t, PSs (cxOf CX0 P w K mg base N qual scope f cdv A outer s H E).nox body t ∧ ∀ (a l : Addr) (c : Nat) (D : Ends), c + n ≤ 1000000 → (∀ v H', SameD a l H H' → Deck a l (c + n) H' → (R i).p v H' → D.rt v H') →
        Go (Hm.dk H a l c) (ent N (tV (.ref a) :: Ps i)) D t) :
    FnOk P w K mg base CX0 (k + 1) f fd ps (spX C n Ps R) := by
  refine F.ok S (fun vs H Q E ⟨i, a, l, c, ws, _, e, h, _⟩ => by rw [e, List.length_cons, h.len]; exact hl i) fun cdv A outer s H vs Q E hr ⟨i, a, l, c, ws, ci, e, h, d, b, q⟩ => ?_
  obtain ⟨t, ht, hg⟩ := hb cdv A outer s H E i hr ci
  refine ⟨t, ht.nox, hg a l c { nx := fun _ H' => Q .non H', rt := Q } b q _ H ⟨.refl H, d⟩ ?_⟩
  rw [e]
  exact (Pv.cons (P := tV (.ref a)) rfl h).ent
end
end RP
set_option maxHeartbeats 4000000
namespace RP
open PySem PySem.Spec PyProof.Rows L2
/-! ### a walk along a list -/
def GiS (Γ : Ctx) (wi : TI) (n : Nat) (T : Nat → Ty) : Prop := ∀ (σ : L2.St) (H : Hp) (R : It → Hp → Prop), Sat Γ σ H →
  (∀ J H1 G, Same H H1 → (∀ H', Same H1 H' → G H') → Walk J n G (fun i H' x H'' => Same H' H'' ∧ (Same H1 H' → (T i).p x H'')) → R J H1) → wi σ H R
section
variable {K : PySem.W.Frag} {Γ : Ctx} {te : TE} {M : Hm} {D : Ends} {g : TG} {t u : TS}
theorem gis_list {ds : List PyData} {T : Nat → Ty} (he : Gv Γ te (tL K ds)) (hT : ∀ i d, ds[i]? = some d → T i = tD K d) : GiS Γ (iList K te) ds.length T := fun σ H R s q => he σ H _ s fun v H1 e1 hv => by
  obtain ⟨a, xs, e, h1, h2⟩ := hv
  have w : Walk (Itl K a) ds.length (fun H => SqL K H a xs) (YAt xs) := h2.len ▸ walk_list
  refine ⟨a, e, ⟨xs, h1⟩, q _ H1 _ e1 (fun H' i => i.seq h1) (walk_to w fun i H' x H'' hi y => ?_)⟩
  obtain ⟨e2, hx⟩ := y
  subst e2
  refine ⟨.refl _, fun im => ?_⟩
  obtain ⟨d, hd, hdu⟩ := h2.get' hx
  rw [hT i d hd]
  exact hdu.im (.of im)
theorem q_forS {wi : TI} {n : Nat} {T : Nat → Ty} (hi : GiS Γ wi n T) (Γs : Nat → Ctx) (h0 : ∀ σ H, Sat Γ σ H → Sat (Γs 0) σ H)
    (hs : ∀ i, i < n → ∀ (M' : Hm) (nx : L2.St → Hp → Prop), (∀ H, M'.p H → M.p H) → Nx M' (Γs (i + 1)) nx → ∃ Γ', Gt (Γs i) g (T i) Γ' ∧ Go M' Γ' { D with nx := nx, ct := nx, bk := u D } t)
    (hd : Go M (Γs n) D u) : Go M Γ D (tSeq (tFor wi g t) u) := fun σ H m s => hi σ H _ s fun J H1 G e1 hG w => by
  refine for_it w (fun i σ' H' => Same H1 H' ∧ Sat (Γs i) σ' H') ⟨.refl H1, h0 σ H1 (s.up e1)⟩ (fun i σ' H' _ p => hG H' p.1) (fun i x σ' H' H'' hin p y => ?_) (fun σ' H' p => hd σ' H' (M.up p.1 (M.up e1 m)) p.2)
  obtain ⟨y1, y2⟩ := y
  obtain ⟨Γ', hg, hb⟩ := hs i hin (.of H1) (fun σ' H' => Same H1 H' ∧ Sat (Γs (i + 1)) σ' H') (fun H2 e2 => M.up e2 (M.up e1 m)) (fun σ2 H2 m2 s2 => ⟨m2, s2⟩)
  exact hg x σ' H'' _ (p.2.up y1) (y2 p.1) fun σ2 H2 e2 s2 => hb σ2 H2 ((p.1.trans y1).trans e2) s2
/-- a fresh list of whole numbers, by its address -/
def tLi : Ty := ⟨fun v H => ∃ (l : Addr) (cs : List Int), v = .ref l ∧ H l = some (.lst (cs.map V.int)) ∧ cs.length ≤ 1000, fun e ⟨l, cs, h1, h2, h3⟩ => ⟨l, cs, h1, e _ _ h2, h3⟩⟩
theorem gv_revL {ns : List Int} (he : Gv Γ te (tL K (ns.map .int))) (hl : ns.length ≤ 1000) : Gv Γ (tRevL K te) tLi := fun σ H Q s q => he σ H _ s fun v H1 e1 hv => by
  obtain ⟨a, xs, e, h1, h2⟩ := hv
  refine ⟨a, xs, e, h1, fun p hp => q _ _ (e1.trans (same_new hp)) ⟨p, ns.reverse, rfl, ?_, by rw [List.length_reverse]; exact hl⟩⟩
  rw [upd_same, h2.ints, List.map_reverse]
/-- a deck, new -/
def tDk (c : Nat) : Ty := ⟨fun v H => ∃ a l, v = .ref a ∧ Deck a l c H, fun e ⟨a, l, h1, h2⟩ => ⟨a, l, h1, h2.up e⟩⟩
theorem gv_deck {ta tb : TE} {C : Int → Prop} (h1 : Gv Γ ta tLi) (h2 : Gv Γ tb (tE C fun i => tD K (.int i))) : Gv Γ (tLst (tCons ta (tCons tb (tCons (tC (.int 0)) tNil)))) (tDk 0) := fun σ H Q s q =>
  ga_cons h1 (ga_cons h2 (ga_cons (gv_int (K := K) (i := 0)) ga_nil)) σ H _ s fun vs H1 e1 hv => by
    cases hv with
    | cons x hv =>
      cases hv with
      | cons y hv =>
        obtain ⟨z, e, hz⟩ := hv.one
        obtain ⟨l, cs, ex, hx, hl⟩ := x
        obtain ⟨sd, _, hy⟩ := y
        have ey := Du.int_inv hy
        have ez := Du.int_inv hz
        subst e ex ey ez
        refine ⟨by rw [sizeLine_eq]; exact Nat.le_of_ble_eq_true rfl, fun p hp => q _ _ (e1.trans (same_new hp)) ⟨p, l, rfl, cs, sd, 0, upd_same, ?_, Int.le_refl _, Int.le_refl _, hl⟩⟩
        rw [upd_ne (ne_of_none hx hp)]
        exact hx
end
end RP
set_option maxHeartbeats 4000000
namespace RP
open PySem PySem.Spec PyProof.Rows L2
/-! ### dicts of whole numbers, tapes -/
section
variable {K : PySem.W.Frag} {Γ Γ1 : Ctx} {M : Hm} {D : Ends} {u tb : TS} {te tv ta : TE} {t : TA} {g : TG} {Co a dx : Addr} {m : Mo} {f mn : Str} {P : Ty} {j : Nat} {H0 : Hp} {S : List Addr}
theorem go_run {σ : L2.St} {H : Hp} {t : TS} (h : Go M Γ D t) (m : M.p H) (s : Sat Γ σ H) : t D σ H := h σ H m s
/-- for .. in range(n), the claim about the heap kept by each turn -/
theorem q_forR {ra : TA} {n : Nat} (he : Ga Γ ra [tD K (.int (n : Nat))]) (hn : n < 2 ^ 61) (Γs : Nat → Ctx) (h0 : ∀ σ H, Sat Γ σ H → Sat (Γs 0) σ H)
    (hs : ∀ i, i < n → ∀ nx : L2.St → Hp → Prop, Nx M (Γs (i + 1)) nx → ∃ Γ', Gt (Γs i) g (tD K (.int (i : Nat))) Γ' ∧ Go M Γ' { D with nx := nx, ct := nx, bk := u D } tb)
    (hd : Go M (Γs n) D u) : Go M Γ D (tSeq (tFor (iRng1 ra) g tb) u) := fun σ H mm s => he σ H _ s fun vs H1 e1 hv => by
  obtain ⟨v, e, h⟩ := hv.one
  subst e
  obtain rfl := Du.int_inv h
  refine ⟨(n : Int), rfl, by omega, by omega, ?_⟩
  have en : ((n : Int)).toNat = n := Int.toNat_natCast n
  rw [en]
  refine for_it (walk_range (lo := 0) (n := n)) (fun i σ' H' => M.p H' ∧ Sat (Γs i) σ' H') ⟨M.up e1 mm, h0 σ H1 (s.up e1)⟩ (fun _ _ _ _ _ => trivial) (fun i x σ' H' H'' hi p y => ?_) (fun σ' H' p => hd σ' H' p.1 p.2)
  obtain ⟨eH, ex⟩ := y
  subst eH
  obtain ⟨Γ', hg, hb⟩ := hs i hi (fun σ2 H2 => M.p H2 ∧ Sat (Γs (i + 1)) σ2 H2) fun σ2 H2 m2 s2 => ⟨m2, s2⟩
  have ex' : x = .int (i : Nat) := by
    rw [ex]
    show V.int (0 + (i : Nat)) = _
    rw [Int.zero_add]
  rw [ex']
  exact hg _ σ' H'' _ p.2 (Du.int _) fun σ2 H2 e2 s2 => hb σ2 H2 (M.up e2 p.1) s2
/-- what an expression gives, told of the heap too -/
def GvM (M : Hm) (Γ : Ctx) (te : TE) (P : Ty) : Prop := ∀ (σ : L2.St) (H : Hp) (Q : VK), M.p H → Sat Γ σ H → (∀ v H', Same H H' → P.p v H' → Q v H') → te σ H Q
def GaM (M : Hm) (Γ : Ctx) (ts : TA) (Ps : List Ty) : Prop := ∀ (σ : L2.St) (H : Hp) (Q : List V → Hp → Prop), M.p H → Sat Γ σ H → (∀ vs H', Same H H' → Pv H' Ps vs → Q vs H') → ts σ H Q
theorem gvm_of (h : Gv Γ te P) : GvM M Γ te P := fun σ H Q _ s q => h σ H Q s q
theorem gam_one (h : GvM M Γ te P) : GaM M Γ (tCons te tNil) [P] := fun σ H Q mm s q => h σ H _ mm s fun x H1 e1 hx => q [x] H1 e1 (.cons hx .nil)
theorem qm_callM {ι : Type} {Cd : ι → Prop} {ad : ι → Addr × Addr} {m1 m2 : ι → Mo} {Ps : ι → List Ty} {Qs : List Ty} (i : ι) (hj : Γ[j]? = some (some (tM K Co (ad i).1 (ad i).2 (m1 i)))) (hn : (m1 i).fs.lookup mn = none) (hs : GaM (Hm.fr H0 S) Γ t Qs) (e : Ps i = Qs) (c : Cd i) (o : OFx j Γ) (hS : ∀ b ∈ (m1 i).adr (ad i).1, b ∈ S)
    (im : ∀ H H', (tM K Co (ad i).1 (ad i).2 (m1 i)).p (.ref (ad i).1) H → (∀ b o, b ∉ (m1 i).adr (ad i).1 → H b = some o → H' b = some o) → Im H H')
    (k : Go (Hm.fr H0 S) (Γ.set j (some (tM K Co (ad i).1 (ad i).2 (m2 i)))) D u) : Go (Hm.fr H0 S) Γ D (tSeq (tDrop (tMeth Co mn (spM K Co Cd ad m1 m2 Ps) [] E0 (tVar j) t)) u) := fun σ H mm s => by
  obtain ⟨v0, h1, hv⟩ := s.at_ j _ hj
  obtain ⟨e0, ⟨us, h2, h3⟩, h4, h5⟩ := id hv
  subst e0
  refine ⟨_, h1, (ad i).1, (ad i).2, us, rfl, h2, h3.none hn, hs σ H _ mm s fun ws H1 e1 h6 => ⟨i, ws, c, by rw [List.append_nil], (tM K Co (ad i).1 (ad i).2 (m1 i)).up e1 hv, by rw [e]; exact h6, fun H' kp h7 => ?_⟩⟩
  exact k σ H' (fun b ob n q => kp b ob (fun z => n (hS b z)) (e1 _ _ (mm b ob n q))) ((s.up e1).moved (im H1 H' ((tM K Co (ad i).1 (ad i).2 (m1 i)).up e1 hv) kp) o hj h1 h7)
/-- a field of a value that changes -/
theorem gv_fldX (he : Gv Γ te (tM K Co a dx m)) (hc : Cls K Co) (hn : NoAttr K Co f) (hl : m.fs.lookup f = some P) : Gv Γ (tFld K te f) P := fun σ H Q s q => he σ H _ s fun v H1 e1 hv => by
  obtain ⟨e, ⟨us, h2, h3⟩, _⟩ := hv
  obtain ⟨x, h4, h5⟩ := h3.look hl
  exact ⟨a, Co, dx, us, x, e, h2, hc, hn, h4, q x H1 e1 h5⟩
theorem gv_fldLX {i : Nat} {l : Addr} {ds : List PyData} (he : Gv Γ te (tM K Co a dx m)) (hc : Cls K Co) (hn : NoAttr K Co f) (hl : m.fs.lookup f = some (tV (.ref l))) (hi : m.ls[i]? = some (l, ds)) : Gv Γ (tFld K te f) (tL K ds) := fun σ H Q s q => he σ H _ s fun v H1 e1 hv => by
  obtain ⟨e, ⟨us, h2, h3⟩, h6, _⟩ := hv
  obtain ⟨x, h4, h5⟩ := h3.look hl
  obtain ⟨xs, hx, hd⟩ := h6.at_ hi
  obtain rfl : x = .ref l := h5
  exact ⟨a, Co, dx, us, _, e, h2, hc, hn, h4, q _ H1 e1 ⟨l, xs, rfl, SqL.of hx, hd⟩⟩
/-- the same of one of several -/
theorem gv_fldE {ι : Type} {C : ι → Prop} {aa dd : ι → Addr} {mm : ι → Mo} (he : Gv Γ te (tE C fun x => tM K Co (aa x) (dd x) (mm x))) (hc : Cls K Co) (hn : NoAttr K Co f) (hl : ∀ x, C x → (mm x).fs.lookup f = some P) : Gv Γ (tFld K te f) P := fun σ H Q s q => he σ H _ s fun v H1 e1 hv => by
  obtain ⟨x, cx, e, ⟨us, h2, h3⟩, _⟩ := hv
  obtain ⟨y, h4, h5⟩ := h3.look (hl x cx)
  exact ⟨aa x, Co, dd x, us, y, e, h2, hc, hn, h4, q y H1 e1 h5⟩
theorem gv_fldLE {ι : Type} {C : ι → Prop} {aa dd : ι → Addr} {mm : ι → Mo} {ds : List PyData} {i : Nat} (he : Gv Γ te (tE C fun x => tM K Co (aa x) (dd x) (mm x))) (hc : Cls K Co) (hn : NoAttr K Co f) (hl : ∀ x, C x → ∃ l, (mm x).fs.lookup f = some (tV (.ref l)) ∧ (mm x).ls[i]? = some (l, ds)) : Gv Γ (tFld K te f) (tL K ds) := fun σ H Q s q => he σ H _ s fun v H1 e1 hv => by
  obtain ⟨x, cx, e, ⟨us, h2, h3⟩, h6, _⟩ := hv
  obtain ⟨l, hl1, hl2⟩ := hl x cx
  obtain ⟨y, h4, h5⟩ := h3.look hl1
  obtain ⟨xs, hx, hd⟩ := h6.at_ hl2
  obtain rfl : y = .ref l := h5
  exact ⟨aa x, Co, dd x, us, _, e, h2, hc, hn, h4, q _ H1 e1 ⟨l, xs, rfl, SqL.of hx, hd⟩⟩
end
/-- the dict at d of whole numbers -/
abbrev Kv := List (Key × V)
def paceOf (kvs : Kv) (i : Int) : Int := match valV kvs (.inl i) with
  | some (.int v) => v
  | _ => 0
/-- each value a whole number from 0 on -/
def KvOk (kvs : Kv) : Prop := ∀ i v, valV kvs (.inl i) = some v → ∃ n : Int, v = .int n ∧ 0 ≤ n
theorem kvOk_nil : KvOk [] := fun i v h => by
  rw [valV_nil] at h
  cases h
theorem kvOk_put {kvs : Kv} {i n : Int} (h : KvOk kvs) (hn : 0 ≤ n) : KvOk (putK kvs (.inl i) (.int n)) := fun j v e => by
  rw [valV_put] at e
  split at e
  · cases e
    exact ⟨n, rfl, hn⟩
  · exact h j v e
theorem pace_put {kvs : Kv} {i n j : Int} : paceOf (putK kvs (.inl i) (.int n)) j = if j = i then n else paceOf kvs j := by
  unfold paceOf
  rw [valV_put]
  by_cases e : j = i
  · subst e
    rw [if_pos rfl, if_pos rfl]
  · have n1 : ¬ (Sum.inl j : Key) = .inl i := fun z => e (Sum.inl.inj z)
    rw [if_neg n1, if_neg e]
theorem pace_ok {kvs : Kv} (h : KvOk kvs) (i : Int) : 0 ≤ paceOf kvs i := by
  unfold paceOf
  cases e : valV kvs (.inl i) with
  | none => exact Int.le_refl _
  | some v =>
    obtain ⟨n, rfl, hn⟩ := h i v e
    exact hn
theorem pace_val {kvs : Kv} (h : KvOk kvs) (i : Int) : (valV kvs (.inl i)).getD (.int 0) = .int (paceOf kvs i) := by
  unfold paceOf
  cases e : valV kvs (.inl i) with
  | none => rfl
  | some v =>
    obtain ⟨n, rfl, _⟩ := h i v e
    rfl
end RP
set_option maxHeartbeats 4000000
namespace RP
open PySem PySem.Spec PyProof.Rows L2
/-! ### dicts whose keys are nested tuples -/
mutual
def kOf : PyData → NestedKey
  | .none => .none
  | .bool b => .num (if b = true then 1 else 0)
  | .int i => .num i
  | .str x => .text x
  | .tuple ds => .tup (kOfs ds)
  | _ => .none
def kOfs : List PyData → List NestedKey
  | [] => []
  | d :: ds => kOf d :: kOfs ds
end
section
variable {X : Cx} {pins : List (Addr × Obj)} {σ : L2.St} {H : Hp} {s : Shared}
mutual
theorem Du.nis (I : Inv X pins σ H s) : ∀ {v : V} {d : PyData} {u : Value}, Du X.K H v d → RelV v u → NestedIs s.heap (kOf d) u
  | _, _, u, .non, r => by
    obtain rfl : u = Value.none := r
    rw [kOf]
    exact .none
  | _, _, u, .bl b, r => by
    obtain rfl : u = Value.bool b := r
    rw [kOf]
    exact .bool rfl
  | _, _, _, .int i, r => by
    obtain ⟨t, rfl⟩ := r
    rw [kOf]
    exact .int i t
  | _, _, _, .str x, r => by
    obtain ⟨t, rfl⟩ := r
    rw [kOf]
    exact .text x t
  | _, _, u, .tup (a := a) h t, r => by
    obtain rfl : u = Value.ref a := r
    obtain ⟨its, rv, ⟨o, ho, hc, n, hd⟩, _⟩ := I.tuple h
    rw [kOf]
    exact .tup ho hc hd (Dus.nis I t rv)
theorem Dus.nis (I : Inv X pins σ H s) : ∀ {vs : List V} {ds : List PyData} {us : List Value}, Dus X.K H vs ds → Vals vs us → NestedAll s.heap (kOfs ds) us
  | _, _, _, .nil, r => by
    cases r
    rw [kOfs]
    exact .nil
  | _, _, _, .cons h t, r => by
    cases r with
    | cons a b =>
      rw [kOfs]
      exact .cons (Du.nis I h a) (Dus.nis I t b)
end
end
/-- keys, where their tuples stand, values -/
abbrev NE := List (NestedKey × Addr × V)
def lookN (E : NE) (k : NestedKey) : Option V := (E.find? fun p => decide (p.1 = k)).map (·.2.2)
abbrev NR : NestedKey × Addr × V → NestedKey × Addr × Value → Prop := fun p q => p.1 = q.1 ∧ p.2.1 = q.2.1 ∧ RelV p.2.2 q.2.2
theorem lookN_app {E : NE} {k j : NestedKey} {a : Addr} {v : V} : lookN (E ++ [(k, a, v)]) j = if (lookN E j).isSome = true then lookN E j else if k = j then some v else none := by
  unfold lookN
  rw [List.find?_append]
  cases e : E.find? fun p => decide (p.1 = j) with
  | some p => rfl
  | none =>
    show ([(k, a, v)].find? fun p => decide (p.1 = j)).map (·.2.2) = _
    rw [List.find?_cons]
    by_cases z : k = j
    · rw [decide_eq_true z]
      simp [z]
    · rw [decide_eq_false z]
      simp [z]
theorem lookN_none {E : NE} {k : NestedKey} (h : k ∉ E.map (·.1)) : lookN E k = none := by
  unfold lookN
  rw [List.find?_eq_none.mpr]
  · rfl
  · intro p hp
    have : ¬ p.1 = k := fun z => h (by rw [← z]; exact List.mem_map_of_mem hp)
    simpa using this
theorem lookN_mem {E : NE} {k : NestedKey} : (lookN E k).isSome = decide (k ∈ E.map (·.1)) := by
  by_cases h : k ∈ E.map (·.1)
  · rw [decide_eq_true h]
    obtain ⟨p, hp, e⟩ := List.mem_map.mp h
    unfold lookN
    rw [Option.isSome_map, List.find?_isSome]
    exact ⟨p, hp, by simpa using e⟩
  · rw [decide_eq_false h, lookN_none h]
    rfl
theorem NR.look {E : NE} {xs : List (NestedKey × Addr × Value)} (r : Paired NR E xs) (k : NestedKey) : RelO (lookN E k) ((atKey xs k).map (·.2)) := by
  induction r with
  | nil => exact True.intro
  | @cons p q ps qs h t ih =>
    obtain ⟨h1, h2, h3⟩ := h
    by_cases e : p.1 = k
    · have e' : q.1 = k := h1.symm.trans e
      have b : atKey (q :: qs) k = some q.2 := by simp [atKey, List.find?_cons, e']
      have b2 : lookN (p :: ps) k = some p.2.2 := by simp [lookN, List.find?_cons, e]
      rw [b, b2]
      exact h3
    · have e' : ¬ q.1 = k := fun z => e (h1.trans z)
      have b : atKey (q :: qs) k = atKey qs k := by simp [atKey, List.find?_cons, e']
      have b2 : lookN (p :: ps) k = lookN ps k := by simp [lookN, List.find?_cons, e]
      rw [b, b2]
      exact ih
section
variable (P : Program) (w : World)
/-- at d stands the dict with these entries -/
def ndPhi (d : Addr) (E : NE) (h : Heap) : Prop := ∃ (xs : List (NestedKey × Addr × Value)) (o : Obj) (es : Array DictEntry) (ep : Nat), Paired NR E xs ∧ (d == sysModules) = false ∧ h.get? d = some o ∧ o.ExactDict ∧ o.data = .dict es ep ∧ es.toList = xs.map (entryOfKey (nestedKind P w)) ∧ (xs.map (·.1)).Nodup
def NdO (d : Addr) (E : NE) : HO := .ext (ndPhi P w d E)
end
/-- the keys' tuples stand -/
def NKeys (K : PySem.W.Frag) (H : Hp) (E : NE) : Prop := ∀ p ∈ E, ∃ ds, Du K H (.ref p.2.1) (.tuple ds) ∧ p.1 = kOf (.tuple ds) ∧ p.1.depth ≤ 8
section
variable {P : Program} {w : World} {K : PySem.W.Frag} {H H' : Hp} {h : Heap} {d : Addr} {E : NE}
theorem nd_obj (R : ndPhi P w d E h) : ObjOk P w H h d (NdO P w d E) := by
  obtain ⟨xs, o, es, ep, h1, h2, h3, h4⟩ := id R
  exact ⟨R, ⟨o, h3⟩, fun _ _ ⟨xs, o, es, ep, h1, h2, h3, h4⟩ st => ⟨xs, o, es, ep, h1, h2, st _ h3, h4⟩⟩
theorem nd_free : ¬ Fix (NdO P w d E) := fun ⟨_, ⟨_, o, _, _, _, _, ho, he, _⟩, n⟩ => n d o ho he.1
theorem NKeys.im (e : Im H H') (k : NKeys K H E) : NKeys K H' E := fun p hp => let ⟨ds, h1, h2⟩ := k p hp; ⟨ds, h1.im e, h2⟩
theorem NKeys.app {k : NestedKey} {a : Addr} {v : V} {ds : List PyData} (hk : NKeys K H E) (h1 : Du K H (.ref a) (.tuple ds)) (h2 : k = kOf (.tuple ds)) (h3 : k.depth ≤ 8) : NKeys K H (E ++ [(k, a, v)]) := fun p hp => by
  rcases List.mem_append.mp hp with hp | hp
  · exact hk p hp
  · have e : p = (k, a, v) := by simpa using hp
    subst e
    exact ⟨ds, h1, h2, h3⟩
theorem nkeys_nil : NKeys K H [] := fun _ h => nomatch h
/-- the dict's entry is replaced: what never changes stands -/
theorem nd_im {E' : NE} (e : H d = some (NdO P w d E)) : Im H (upd H d (NdO P w d E')) := .put e nd_free
end
section
variable {X : Cx} {pins : List (Addr × Obj)} {σ : L2.St} {H : Hp} {s : Shared} {d a : Addr} {E : NE} {ds : List PyData}
theorem nd_room {A : Around} (hu : A.units + 64 < cLine) : (nestedKind X.prog X.w).room A.in1 := by
  show A.in1.units + 8 < cLine
  have : A.in1.units = A.units + 1 := rfl
  omega
theorem nd_room0 {A : Around} (hu : A.units + 64 < cLine) : (nestedKind X.prog X.w).room A := by
  show A.units + 8 < cLine
  omega
theorem nd_key (I : Inv X pins σ H s) (h : Du X.K H (.ref a) (.tuple ds)) (hd : (kOf (.tuple ds)).depth ≤ 8) : (nestedKind X.prog X.w).is s.heap (kOf (.tuple ds)) a := ⟨Du.nis I h rfl, hd⟩
theorem nd_at (I : Inv X pins σ H s) (e : H d = some (NdO X.prog X.w d E)) (hk : NKeys X.K H E) : ∃ xs, Paired NR E xs ∧ (d == sysModules) = false ∧ s.heap.DictOfH (nestedKind X.prog X.w) d xs := by
  obtain ⟨⟨xs, o, es, ep, h1, h2, h3, h4, h5, h6, h7⟩, _⟩ := I.hok d _ e
  refine ⟨xs, h1, h2, o, es, ep, h3, h4, h5, h6, fun x hx => ?_, h7⟩
  have all : ∀ {l : NE} {m : List (NestedKey × Addr × Value)}, Paired NR l m → NKeys X.K H l → ∀ x ∈ m, (nestedKind X.prog X.w).is s.heap x.1 x.2.1 := by
    intro l m q
    induction q with
    | nil => intro _ x hx; exact nomatch hx
    | @cons p q ps qs hq t ih =>
      intro hl x hx
      rcases List.mem_cons.mp hx with e | hx
      · subst e
        obtain ⟨ds, z1, z2, z3⟩ := hl p (List.mem_cons_self ..)
        rw [← hq.1, ← hq.2.1]
        rw [z2] at z3 ⊢
        exact nd_key I z1 z3
      · exact ih (fun p hp => hl p (List.mem_cons_of_mem _ hp)) x hx
  exact all h1 hk x hx
theorem nd_len {xs : List (NestedKey × Addr × Value)} (r : Paired NR E xs) : E.length = xs.length := Paired.length r
theorem nd_snoc {h' : Heap} {xs : List (NestedKey × Addr × Value)} {k : NestedKey} {v : V} {u : Value} (r : Paired NR E xs) (hd : (d == sysModules) = false) (hn : lookN E k = none) (rv : RelV v u) (dd : h'.DictOfH (nestedKind X.prog X.w) d (storedH xs k a u)) : ndPhi X.prog X.w d (E ++ [(k, a, v)]) h' := by
  have e : atKey xs k = none := by
    have z := r |> fun r => NR.look r k
    rw [hn] at z
    cases q : atKey xs k with
    | none => rfl
    | some p => rw [q] at z; exact z.elim
  rw [storedH_new e] at dd
  obtain ⟨o, es, ep, h1, h2, h3, h4, _, h5⟩ := dd
  exact ⟨_, o, es, ep, Paired.snoc r ⟨rfl, rfl, rv⟩, hd, h1, h2, h3, h4, h5⟩
theorem nd_write {h' : Heap} {t' : Nat} {E' : NE} (I : Inv X pins σ H s) (e : H d = some (NdO X.prog X.w d E)) (hs : Heap.SameBut d s.heap h') (R : ndPhi X.prog X.w d E' h') : Inv X pins σ (upd H d (NdO X.prog X.w d E')) { s with heap := h', toks := t' } := by
  obtain ⟨_, o, _, _, _, _, ho, _⟩ := id R
  exact d_write I (by rw [e]; exact True.intro) hs ⟨o, ho⟩ (nd_obj R)
/-- k in d, k not in d -/
def rInN (P : Program) (w : World) (K : PySem.W.Frag) (neg : Bool) : R2 := fun y x H Q => ∃ (d a : Addr) (E : NE) (ds : List PyData), x = .ref d ∧ y = .ref a ∧ H d = some (NdO P w d E) ∧ NKeys K H E ∧ Du K H (.ref a) (.tuple ds) ∧ (kOf (.tuple ds)).depth ≤ 8 ∧ Q (.bl (neg.xor (lookN E (kOf (.tuple ds))).isSome)) H
theorem op_in_nd (hu : X.A.units + 64 < cLine) : OpR X (compareOp .In) (rInN X.prog X.w X.K false) := by
  intro pins s σ H y x v u Q I ry rx h
  obtain ⟨d, a, E, ds, rfl, rfl, e, hk, hy, hd8, q⟩ := h
  obtain rfl : v = Value.ref a := ry
  obtain rfl : u = Value.ref d := rx
  obtain ⟨xs, r, hd, dd⟩ := nd_at I e hk
  refine wpAny_in_heap (nd_room hu) (nd_key I hy hd8) hd dd ?_
  have z := (NR.look r (kOf (.tuple ds))).isSome_eq
  rw [Option.isSome_map] at z
  rw [← z]
  refine ⟨.bl _, H, I.tok _, rfl, ?_⟩
  have : Bool.xor false (lookN E (kOf (.tuple ds))).isSome = (lookN E (kOf (.tuple ds))).isSome := Bool.false_xor _
  rw [this] at q
  exact q
theorem op_notIn_nd (hu : X.A.units + 64 < cLine) : OpR X (compareOp .NotIn) (rInN X.prog X.w X.K true) := by
  intro pins s σ H y x v u Q I ry rx h
  obtain ⟨d, a, E, ds, rfl, rfl, e, hk, hy, hd8, q⟩ := h
  obtain rfl : v = Value.ref a := ry
  obtain rfl : u = Value.ref d := rx
  obtain ⟨xs, r, hd, dd⟩ := nd_at I e hk
  refine wpAny_notIn_heap (nd_room hu) (nd_key I hy hd8) hd dd ?_
  have z := (NR.look r (kOf (.tuple ds))).isSome_eq
  rw [Option.isSome_map] at z
  rw [← z]
  refine ⟨.bl _, H, I.tok _, rfl, ?_⟩
  have : Bool.xor true (lookN E (kOf (.tuple ds))).isSome = !(lookN E (kOf (.tuple ds))).isSome := Bool.true_xor _
  rw [this] at q
  exact q
/-- d[k] = v, k new -/
def rSetN (P : Program) (w : World) (K : PySem.W.Frag) : TSet := fun o i v H Q => ∃ (d a : Addr) (E : NE) (ds : List PyData), o = .ref d ∧ i = .ref a ∧ H d = some (NdO P w d E) ∧ NKeys K H E ∧ Du K H (.ref a) (.tuple ds) ∧ (kOf (.tuple ds)).depth ≤ 8 ∧ lookN E (kOf (.tuple ds)) = none ∧ E.length ≤ 1000 ∧
  Q (upd H d (NdO P w d (E ++ [(kOf (.tuple ds), a, v)])))
theorem set_nd (hu : X.A.units + 64 < cLine) : PSet X (rSetN X.prog X.w X.K) := by
  intro pins s σ H o i v ov iv u Q I ro ri rv h
  obtain ⟨d, a, E, ds, rfl, rfl, e, hk, hy, hd8, hn, hz, q⟩ := h
  obtain rfl : ov = Value.ref d := ro
  obtain rfl : iv = Value.ref a := ri
  obtain ⟨xs, r, hd, dd⟩ := nd_at I e hk
  have lx := nd_len r
  exact wpAny_setItem_heap (hsz := by rw [sizeLine_eq]; omega) (nd_room hu) (nd_key I hy hd8) dd fun h' dd' hs => ⟨_, nd_write I e hs (nd_snoc r hd hn rv dd'), q⟩
/-- d[k] -/
def tNGet (P : Program) (w : World) (K : PySem.W.Frag) (td ty : TE) : TE := fun σ H Q => td σ H fun x H1 => ty σ H1 fun y H2 => ∃ (d a : Addr) (E : NE) (ds : List PyData) (v : V), x = .ref d ∧ y = .ref a ∧ H2 d = some (NdO P w d E) ∧ NKeys K H2 E ∧ Du K H2 (.ref a) (.tuple ds) ∧ (kOf (.tuple ds)).depth ≤ 8 ∧ lookN E (kOf (.tuple ds)) = some v ∧ Q v H2
theorem pe_nget {o i : Expr} {pos : Pos} {td ty : TE} (hu : X.A.units + 64 < cLine) (ho : PE X o td) (hi : PE X i ty) (hs : NoSl i) : PE X (.Subscript o i pos) (tNGet X.prog X.w X.K td ty) := by
  refine ⟨fun pins s σ H Q I h => ?_⟩
  refine subD_of PySem.F.slot_dict_getitem.lookup hs (thn (ho.run pins s σ H _ I h) fun u s1 ⟨x, H1, I1, rx, q1⟩ => thn (hi.run pins s1 σ H1 _ I1 q1) fun iv s2 ⟨y, H2, I2, ry, d, a, E, ds, v, ex, ey, e, hk, hy, hd8, hl, q2⟩ => ?_)
  subst ex ey
  obtain rfl : u = Value.ref d := rx
  obtain rfl : iv = Value.ref a := ry
  obtain ⟨xs, r, hd, dd⟩ := nd_at I2 e hk
  have z := NR.look r (kOf (.tuple ds))
  obtain ⟨w', hw, rw'⟩ := RelO.some_of (v := v) (o := (atKey xs (kOf (.tuple ds))).map (·.2)) (by rw [← hl]; exact z)
  obtain ⟨p, hp, hp2⟩ := Option.map_eq_some_iff.mp hw
  refine ⟨dd.typeIs, wpAny_getItem_heap (nd_room hu) (nd_key I2 hy hd8) dd hp ?_⟩
  rw [hp2]
  exact ⟨v, H2, I2.tok _, rw', q2⟩
/-- {k: v} -/
def tNDisp (P : Program) (w : World) (K : PySem.W.Frag) (tk tv : TE) : TE := fun σ H Q => ∀ p, H p = none → tk σ (upd H p (NdO P w p [])) fun x H1 => tv σ H1 fun y H2 => ∃ (a : Addr) (ds : List PyData), x = .ref a ∧ H2 p = some (NdO P w p []) ∧ Du K H2 (.ref a) (.tuple ds) ∧ (kOf (.tuple ds)).depth ≤ 8 ∧
  Q (.ref p) (upd H2 p (NdO P w p [(kOf (.tuple ds), a, y)]))
theorem nd_new (P : Program) (w : World) {h : Heap} (hb : sysModules < h.objs.size) : ndPhi P w h.objs.size [] (h.push { cls := .type "dict", data := .dict #[] }) :=
  ⟨[], _, #[], _, .nil, by simpa using (Nat.ne_of_gt hb), Heap.get?_push_size _ rfl, ⟨rfl, rfl, rfl⟩, rfl, rfl, List.nodup_nil⟩
theorem inv_nd (I : Inv X pins σ H s) : Inv X pins σ (upd H s.heap.objs.size (NdO X.prog X.w s.heap.objs.size [])) { s with heap := s.heap.push { cls := .type "dict", data := .dict #[] } } :=
  I.laid (a := s.heap.objs.size) (t' := s.toks) (fun _ _ q => Heap.get?_push_of_some _ q) (Nat.le_refl _) (nd_obj (nd_new _ _ I.big))
def ndQ (P : Program) (w : World) (K : PySem.W.Frag) (p : Addr) (Q : VK) : List (V × V) → Hp → Prop
  | [(x, y)], H2 => ∃ (a : Addr) (ds : List PyData), x = .ref a ∧ H2 p = some (NdO P w p []) ∧ Du K H2 (.ref a) (.tuple ds) ∧ (kOf (.tuple ds)).depth ≤ 8 ∧ Q (.ref p) (upd H2 p (NdO P w p [(kOf (.tuple ds), a, y)]))
  | _, _ => False
theorem pe_ndisp {k v : Expr} {pos : Pos} {tk tv : TE} (hu : X.A.units + 64 < cLine) (hk : PE X k tk) (hv : PE X v tv) : PE X (.Dict [some k] [v] pos) (tNDisp X.prog X.w X.K tk tv) := by
  refine ⟨fun pins s σ H Q I q => ?_⟩
  have hn := I.hok.fresh (Nat.le_refl s.heap.objs.size)
  have I1 := inv_nd I
  have pp : PPs X pos [some k] [v] [(tk, tv)] := pps_cons hk hv pps_nil
  have hlen : (pairTrees [some k] [v] X.env pos).length = 1 := pairTrees_length _ _ _ _ rfl rfl
  rw [arm_eval_Dict, zip_pairTrees [some k] [v] X.env pos rfl rfl, dictDisplay_pairs _ (fun z => by rw [z] at hlen; cases hlen) (by rw [hlen]; decide)]
  refine wpAny_bind (wpAny_standAt (wpAny_bind (wpAny_subDictH (knd := nestedKind X.prog X.w) (Q := fun d s' => wpAny (model X.prog X.w) X.A (pure (Value.ref d)) _ X.xe s') (nd_room0 hu) (by rw [hlen]; decide)
    (thn (pp.run pins _ σ _ (ndQ X.prog X.w X.K s.heap.objs.size Q) I1 (q _ hn)) fun ws s2 hh => ?_))))
  obtain ⟨ps, H2, I2, rel, hq⟩ := hh
  match ps, rel, hq with
  | [(x, y)], rel, hq =>
    obtain ⟨a, ds, ex, e, hy, hd8, q2⟩ := hq
    subst ex
    cases rel with
    | @cons p z ps zs hp t =>
      cases t
      obtain ⟨z1, z2⟩ := z
      obtain ⟨r1, r2⟩ := hp
      obtain rfl : z1 = Value.ref a := r1
      obtain ⟨xs, r, hd, dd⟩ := nd_at I2 e nkeys_nil
      cases r
      refine ⟨[(kOf (.tuple ds), a, z2)], ⟨rfl, rfl, nd_key I2 hy hd8, trivial⟩, dd, fun h' tk' dd' hs => wpAny_pure ⟨.ref s.heap.objs.size, _, ?_, rfl, q2⟩⟩
      exact nd_write I2 e hs (nd_snoc (E := []) (xs := []) .nil hd rfl r2 dd')
  | [], _, hq => exact hq.elim
  | _ :: _ :: _, _, hq => exact hq.elim
end
end RP
set_option maxHeartbeats 4000000
namespace RP
open PySem PySem.Spec PyProof.Rows L2
/-! ### reading with what is known of the heap -/
def GbM (M : Hm) (Γ : Ctx) (tt : TT) (b : Bool) : Prop := ∀ (σ : L2.St) (H : Hp) (Q : Bool → Hp → Prop), M.p H → Sat Γ σ H → (∀ H', Same H H' → Q b H') → tt σ H Q
section
variable {K : PySem.W.Frag} {Γ Γ1 : Ctx} {M : Hm} {D : Ends} {u tb t t2 : TS} {te tv ta : TE} {ts : TA} {g : TG} {A B P R : Ty} {l d : Addr} {c : TT} {b : Bool}
theorem gbm_of (h : Gb Γ c b) : GbM M Γ c b := fun σ H Q _ s q => h σ H Q s q
theorem gbm_val (h : GvM M Γ te (tD K (.bool b))) : GbM M Γ (tTest te) b := fun σ H Q m s q => h σ H _ m s fun v H' e hv => ⟨b, Du.bl_inv hv, q H' e⟩
theorem gbm_or {t u : TT} {b c : Bool} (h : GbM M Γ t b) (k : b = false → GbM M Γ u c) : GbM M Γ (tOr t u) (b || c) := fun σ H Q m s q => h σ H _ m s fun H' e => by
  cases b with
  | true => exact iteT (q H' e)
  | false => exact iteF (k rfl σ H' Q (M.up e m) (s.up e) fun H2 e2 => by
      have z := q H2 (e.trans e2)
      simpa using z)
theorem gbm_and {t u : TT} {b c : Bool} (h : GbM M Γ t b) (k : b = true → GbM M Γ u c) : GbM M Γ (tAnd t u) (b && c) := fun σ H Q m s q => h σ H _ m s fun H' e => by
  cases b with
  | false => exact iteF (q H' e)
  | true => exact iteT (k rfl σ H' Q (M.up e m) (s.up e) fun H2 e2 => by
      have z := q H2 (e.trans e2)
      simpa using z)
theorem gvm_cb1 {r : List V → Hp → VK → Prop} (h : GvM M Γ ta A) (hr : Gc r [A] P) : GvM M Γ (tCB r (tCons ta tNil)) P := fun σ H Q m s q => h σ H _ m s fun x H1 e1 hx => hr [x] H1 Q (.cons hx .nil) fun v H2 e2 hv => q v H2 (e1.trans e2) hv
theorem gvm_op {r : R2} (ha : GvM M Γ ta A) (hb : GvM M Γ te B) (hr : G2 r A B P) : GvM M Γ (tOp r ta te) P := fun σ H Q m s q =>
  ha σ H _ m s fun x H1 e1 hx => hb σ H1 _ (M.up e1 m) (s.up e1) fun y H2 e2 hy => hr x y H2 Q (A.up e2 hx) hy fun v H3 e3 hv => q v H3 ((e1.trans e2).trans e3) hv
theorem GvM.to (h : GvM M Γ te P) (k : ∀ v H, P.p v H → R.p v H) : GvM M Γ te R := fun σ H Q m s q => h σ H Q m s fun v H' e hv => q v H' e (k v H' hv)
theorem gvm_eqI {i j : Int} (ha : GvM M Γ ta (tD K (.int i))) (hb : GvM M Γ te (tD K (.int j))) : GvM M Γ (tOp rEq ta te) (tD K (.bool (decide (i = j)))) := gvm_op ha hb fun x y H Q hx hy q => by
  rw [Du.int_inv hx, Du.int_inv hy]
  refine ⟨rfl, q _ H (.refl H) ?_⟩
  have e : decide (V.int i = V.int j) = decide (i = j) := decide_eq_decide.mpr ⟨fun z => V.int.inj z, fun z => by rw [z]⟩
  rw [e]
  exact .bl _
theorem gvm_b0 {g : Int → Int → Bool} {i j : Int} (ha : GvM M Γ ta (tD K (.int i))) (hb : GvM M Γ te (tD K (.int j))) : GvM M Γ (tOp (rI0 fun i j => .bl (g i j)) ta te) (tD K (.bool (g i j))) := gvm_op ha hb (g2_I0 fun _ => .bl _)
/-- the list at l, as the heap's claim says -/
theorem gvm_lst {ds : List PyData} (h : Gv Γ te (tV (.ref l))) (hM : ∀ H, M.p H → ∃ vs, H l = some (.lst vs) ∧ Dus K H vs ds) : GvM M Γ te (tL K ds) := fun σ H Q m s q => h σ H _ s fun v H1 e1 hv => by
  obtain rfl : v = .ref l := hv
  obtain ⟨vs, h1, h2⟩ := hM H1 (M.up e1 m)
  exact q _ H1 e1 ⟨l, vs, rfl, SqL.of h1, h2⟩
theorem gvm_ixL {ds : List PyData} {i : Int} {d : PyData} (ha : GvM M Γ ta (tL K ds)) (hb : GvM M Γ te (tD K (.int i))) (e : L2.atI ds i = some d) : GvM M Γ (tOp (rIxL K) ta te) (tD K d) := gvm_op ha hb fun x y H Q hx hy q => by
  obtain ⟨a, xs, ex, h1, h2⟩ := hx
  obtain ⟨v, h3, h4⟩ := h2.atI e
  exact ⟨a, xs, i, v, ex, Du.int_inv hy, h1, h3, q v H (.refl H) h4⟩
theorem gom_if (hc : GbM M Γ c b) (h1 : b = true → Go M Γ D t) (h2 : b = false → Go M Γ D u) : Go M Γ D (tIfS c t u) := fun σ H m s => hc σ H _ m s fun H1 e1 => by
  cases b with
  | true => exact iteT (h1 rfl σ H1 (M.up e1 m) (s.up e1))
  | false => exact iteF (h2 rfl σ H1 (M.up e1 m) (s.up e1))
theorem qm_when (hc : GbM M Γ c b) (h1 : b = true → Go M Γ { D with nx := u D } t) (h2 : b = false → Go M Γ D u) : Go M Γ D (tSeq (tIfS c t tNext) u) := gom_if (D := { D with nx := u D }) hc h1 h2
theorem gom_asg (he : GvM M Γ te P) (hg : Gt Γ g P Γ1) (k : Nx M Γ1 D.nx) : Go M Γ D (tAsg te g) := fun σ H m s =>
  he σ H _ m s fun v H1 e1 hv => hg v σ H1 _ (s.up e1) hv fun σ2 H2 e2 s2 => k σ2 H2 (M.up e2 (M.up e1 m)) s2
theorem qm_asg (he : GvM M Γ te P) (hg : Gt Γ g P Γ1) (k : Go M Γ1 D u) : Go M Γ D (tSeq (tAsg te g) u) := gom_asg (D := { D with nx := u D }) he hg k
theorem qm_set {i : Nat} (he : GvM M Γ te P) (k : Go M (Γ.set i (some P)) D u) : Go M Γ D (tSeq (tAsg te (gName i)) u) := qm_asg he gt_name k
theorem gom_ret (he : GvM M Γ te P) (r : Rt R M D) (k : ∀ v H, P.p v H → R.p v H) : Go M Γ D (tRet te) := fun σ H m s => he σ H _ m s fun v H1 e1 hv => r v H1 (M.up e1 m) (k v H1 hv)
/-- a while by states, the heap's claim by the state too -/
theorem q_whileM {α : Type} {c : TT} {tb : TS} (Γs : α → Ctx) (Ms : α → Hm) (C : α → Prop) (mu : α → Nat) (b : α → Bool) (x0 : α) (c0 : C x0) (h0 : Γ = Γs x0) (hm : ∀ H, M.p H → (Ms x0).p H) (hc : ∀ x, C x → GbM (Ms x) (Γs x) c (b x))
    (hs : ∀ x, C x → b x = true → ∀ nx : L2.St → Hp → Prop, (∀ y, C y → mu y < mu x → Nx (Ms y) (Γs y) nx) → Go (Ms x) (Γs x) { D with nx := nx, ct := nx, bk := u D } tb)
    (hd : ∀ x, C x → b x = false → Go (Ms x) (Γs x) D u) : Go M Γ D (tSeq (tWhile c tb) u) := fun σ H mm s => by
  subst h0
  refine ⟨fun n σ H => ∃ x, C x ∧ mu x = n ∧ (Ms x).p H ∧ Sat (Γs x) σ H, ⟨_, x0, c0, rfl, hm H mm, s⟩, fun n σ1 H1 w => ?_⟩
  obtain ⟨x, cx, e, m1, s1⟩ := w
  refine hc x cx σ1 H1 _ m1 s1 fun H2 e2 => ?_
  cases hb : b x with
  | true =>
    rw [if_pos rfl]
    refine ⟨fun σ' H' => ∃ y, C y ∧ mu y < mu x ∧ (Ms y).p H' ∧ Sat (Γs y) σ' H', fun σ' H' ⟨y, cy, ly, m', sy⟩ => ⟨mu y, by rw [← e]; exact ly, y, cy, rfl, m', sy⟩, ?_⟩
    exact hs x cx hb _ (fun y cy ly σ' H' m' s' => ⟨y, cy, ly, m', s'⟩) σ1 H2 ((Ms x).up e2 m1) (s1.up e2)
  | false =>
    rw [if_neg (by decide)]
    exact hd x cx hb σ1 H2 ((Ms x).up e2 m1) (s1.up e2)
/-- a for, the heap's claim by the turn and a state -/
theorem q_forM {α : Type} {wi : TI} {n : Nat} {T : Nat → Ty} (hi : Gi Γ wi n T) (Γs : Nat → α → Ctx) (Ms : Hp → Nat → α → Hm) (C : Nat → α → Prop) (x0 : α) (c0 : C 0 x0) (h0 : ∀ σ H, Sat Γ σ H → Sat (Γs 0 x0) σ H) (hm : ∀ H1, M.p H1 → (Ms H1 0 x0).p H1)
    (him : ∀ H1 i x H', M.p H1 → (Ms H1 i x).p H' → Im H1 H')
    (hs : ∀ H1 i x, M.p H1 → i < n → C i x → ∀ nx : L2.St → Hp → Prop, (∀ y, C (i + 1) y → Nx (Ms H1 (i + 1) y) (Γs (i + 1) y) nx) → ∃ Γ', Gt (Γs i x) g (T i) Γ' ∧ Go (Ms H1 i x) Γ' { D with nx := nx, ct := nx, bk := u D } tb)
    (hd : ∀ H1 x, M.p H1 → C n x → Go (Ms H1 n x) (Γs n x) D u) : Go M Γ D (tSeq (tFor wi g tb) u) := fun σ H m s => hi σ H _ s fun J H1 G e1 hG w => by
  have m1 := M.up e1 m
  refine for_it w (fun i σ' H' => ∃ x, C i x ∧ (Ms H1 i x).p H' ∧ Sat (Γs i x) σ' H') ⟨x0, c0, hm H1 m1, h0 σ H1 (s.up e1)⟩ (fun i σ' H' _ ⟨x, _, p, _⟩ => hG H' (him H1 i x H' m1 p)) (fun i x σ' H' H'' hin p y => ?_) (fun σ' H' ⟨x, cx, p, s'⟩ => hd H1 x m1 cx σ' H' p s')
  obtain ⟨y1, y2⟩ := y
  obtain ⟨z, cz, p1, p2⟩ := p
  obtain ⟨Γ', hg, hb⟩ := hs H1 i z m1 hin cz (fun σ' H' => ∃ x, C (i + 1) x ∧ (Ms H1 (i + 1) x).p H' ∧ Sat (Γs (i + 1) x) σ' H') (fun y cy σ2 H2 m2 s2 => ⟨y, cy, m2, s2⟩)
  exact hg x σ' H'' _ (p2.up y1) (y2 hG (him H1 i z H' m1 p1)) fun σ2 H2 e2 s2 => hb σ2 H2 ((Ms H1 i z).up (y1.trans e2) p1) s2
end
/-! ### defs that may raise -/
section
variable (P : Program) (w : World) (K : PySem.W.Frag) (mg : Str → Option Value) (base : Heap)
def CalMX (C : Addr) (m : Str) (k : Nat) (sp : Sp) : Prop := ∃ f fd ps, FnOk P w K mg base (L2.CX P w) k f fd ps sp ∧ Meth K C m f ∧ Binds K fd ps []
def CalKX (x : Str) (k n : Nat) (ks : List Str) (gV : List V → List V → List V) (sp : Sp) : Prop := ∃ f fd ps g, FnOk P w K mg base (L2.CX P w) k f fd ps sp ∧ mg x = some (.ref f) ∧ PySem.W.keepIn K (.ref f) = true ∧ KBn K fd ps n ks g gV
end
section
variable {X : Cx} {x m : Str} {k j n : Nat} {sp : Sp} {ks : List Str} {gV : List V → List V → List V} {p pos apos : Pos} {e o : Expr} {es : List Expr} {kwl : List Keyword} {t tk : TA} {ta : TE} {C : Addr} {E : XK}
theorem pe_calMX {pl : Sem Bool} (c : CalMX X.prog X.w X.K X.mg X.base C m k sp) (hc : Cls X.K C) (hr : Room j X.A) (hk : k ≤ j) (hx : Passes (L2.CX X.prog X.w) X E) (ho : PE X o ta) (ha : PA X (e :: es) t)
    (hst : starEach (e :: es) X.env = (false, eval e X.env) :: starEach es X.env := by rfl) (hpl : (backTo pos (starEach es X.env)).any (·.1) = false := by rfl)
    (ht : eval (.Call (.Attribute o m apos) (e :: es) [] pos) X.env = (do
      let ov ← eval o X.env
      standAt apos.atName
      let (f, first) ← holding [ov] (getMethod ov m pl)
      callWith pos f first (backTo pos (starEach (e :: es) X.env)) (backToKw pos (keywordEach [] X.env))) := by rfl) :
    PE X (.Call (.Attribute o m apos) (e :: es) [] pos) (tMeth C m sp [] E ta t) := by
  obtain ⟨f, fd, ps, F, h1, h2⟩ := c
  exact pe_meth ho hc h1 F (hr.mono hk) h2 .nil hx ha hst hpl ht
theorem pe_calMX0 {pl : Sem Bool} (c : CalMX X.prog X.w X.K X.mg X.base C m k sp) (hc : Cls X.K C) (hr : Room j X.A) (hk : k ≤ j) (hx : Passes (L2.CX X.prog X.w) X E) (ho : PE X o ta)
    (ht : eval (.Call (.Attribute o m apos) [] [] pos) X.env = (do
      let ov ← eval o X.env
      standAt apos.atName
      let (f, first) ← holding [ov] (getMethod ov m pl)
      callWith pos f first (backTo pos (starEach [] X.env)) (backToKw pos (keywordEach [] X.env))) := by rfl) :
    PE X (.Call (.Attribute o m apos) [] [] pos) (tMeth C m sp [] E ta tNil) := by
  obtain ⟨f, fd, ps, F, h1, h2⟩ := c
  exact pe_meth0 ho hc h1 F (hr.mono hk) h2 .nil hx ht
/-- f(.., k = v, ..), what it raises by the names -/
def tCallNS (n m : Nat) (sp : Sp) (gV : List V → List V → List V) (E : L2.St → XK) (t tk : TA) : TE := fun σ H Q => t σ H fun vs H1 => tk σ H1 fun zs H2 => vs.length = n ∧ zs.length = m ∧ sp (gV vs zs) H2 Q (E σ)
theorem pe_calKS {E : L2.St → XK} (c : CalKX X.prog X.w X.K X.mg X.base x k n ks gV sp) (hr : Room j X.A) (hk : k ≤ j) (hg : Gl X x) (hx : ∀ σ, PassesAt (L2.CX X.prog X.w) X σ (E σ)) (ha : PA X (e :: es) t) (hkw : PK X kwl tk) (hall : (backToKw pos (keywordEach kwl X.env)).all (·.1.isSome) = true := by rfl) (hks : (backToKw pos (keywordEach kwl X.env)).filterMap (·.1) = ks := by rfl)
    (hdb : (x == ("__debug__" : Str)) = false := by decide) (he : starEach (e :: es) X.env = (false, eval e X.env) :: starEach es X.env := by rfl)
    (hpl : ((backTo pos (starEach (e :: es) X.env)).any (·.1) || (backToKw pos (keywordEach kwl X.env)).any (·.1.isNone)) = false := by rfl) :
    PE X (.Call (.Name x p) (e :: es) kwl pos) (tCallNS n ks.length sp gV E t tk) := by
  obtain ⟨f, fd, ps, g, F, h1, h2, hb⟩ := c
  refine ⟨fun pins s σ H Q I h => ?_⟩
  refine wpAny_Call_Name_kw (ld_glob I hg h1 ?_ hdb)
  refine PySem.W.callWith_KW (h₀ := X.base) I.ok.mod.kin h2 hall (thn (ha.run pos pins s σ H _ I h) fun us s1 ⟨vs, H1, I1, r, q⟩ => ?_) hpl he
  refine thn (hkw.run pos pins s1 σ H1 _ I1 q) fun ws s2 ⟨zs, H2, I2, rz, l1, l2, q2⟩ => ⟨I2.kIn, ?_⟩
  rw [hks]
  refine wpAny_call (codeAny_mono (F.run X.A X.stack s2 H2 ⟨us, ks.zip ws⟩ (g us ws) (gV vs zs) Q (E σ) (hr.mono hk) I2.env0 (hb.to s2 us ws I2.kIn (r.length.symm.trans l1) (rz.length.symm.trans l2)) (hb.rel r rz) q2) fun r s' hq => ?_)
  cases r with
  | error e => exact hx σ pins H2 s2 e s' I2 hq
  | ok fl =>
    cases fl with
    | ret u => exact I2.after hq
    | next => exact False.elim hq
    | brk => exact False.elim hq
    | cont => exact False.elim hq
end
end RP
set_option maxHeartbeats 4000000
namespace RP
open PySem PySem.Spec PyProof.Rows L2
/-! ### dict comprehensions whose keys are nested tuples -/
section
variable {X : Cx}
/-- d[k] = v by a comprehension, k new -/
theorem nd_dictSet {pins : List (Addr × Obj)} {σ : L2.St} {H : Hp} {s : Shared} {E : Value → Shared → Prop} {D a : Addr} {En : NE} {ds : List PyData} {v : V} {u r : Value} {Q : Unit → Shared → Prop} (I : Inv X pins σ H s) (hD : H D = some (NdO X.prog X.w D En)) (hk : NKeys X.K H En) (hy : Du X.K H (.ref a) (.tuple ds)) (h8 : (kOf (.tuple ds)).depth ≤ 8) (hn : lookN En (kOf (.tuple ds)) = none) (hz : En.length ≤ 1000)
    (ry : RelV (.ref a) u) (rv : RelV v r) (h : ∀ s', Inv X pins σ (upd H D (NdO X.prog X.w D (En ++ [(kOf (.tuple ds), a, v)]))) s' → Q () s') (hu : X.A.units + 64 < cLine) : wpAny (model X.prog X.w) X.A (dictSet D u r) Q E s := by
  obtain rfl : u = Value.ref a := ry
  obtain ⟨xs, rr, hd, dd⟩ := nd_at I hD hk
  have lx := nd_len rr
  exact wpAny_dictSet_heap (hsz := by rw [sizeLine_eq]; omega) (nd_room0 hu) (nd_key I hy h8) dd fun h' dd' hs => h _ (nd_write I hD hs (nd_snoc rr hd hn rv dd'))
def tDcN (P : Program) (w : World) (K : PySem.W.Frag) (wi : TI) (g : TG) (tt : TT) (tk tv : TE) (vs : List Nat) : TE := fun σ H Q => wi σ H fun J H1 => ∀ D, H1 D = none → ∃ W : Nat → Nat → Hp → Prop, (∃ m, W 0 m (upd H1 D (NdO P w D []))) ∧ ∀ i m H, W i m H →
  (J.stop i H ∧ Q (.ref D) H) ∨ (J.go i H ∧ ∃ Nx : Hp → Prop, (∀ H', Nx H' → ∃ m', m' < m ∧ W (i + 1) m' H') ∧ ∀ x H', J.yld i H x H' → g x (wipe σ vs) H' fun σ2 H2 => wipe σ2 vs = wipe σ vs ∧ tt σ2 H2 fun b H3 =>
    if b = true then tk σ2 H3 fun y H4 => tv σ2 H4 fun z H5 => ∃ (E : NE) (ds : List PyData) (a : Addr), y = .ref a ∧ H5 D = some (NdO P w D E) ∧ NKeys K H5 E ∧ Du K H5 (.ref a) (.tuple ds) ∧ (kOf (.tuple ds)).depth ≤ 8 ∧ lookN E (kOf (.tuple ds)) = none ∧ E.length ≤ 1000 ∧ Nx (upd H5 D (NdO P w D (E ++ [(kOf (.tuple ds), a, z)]))) else Nx H3)
theorem dcN_core {pins : List (Addr × Obj)} {s : Shared} {σ : L2.St} {H : Hp} {Q : VK} {kx vx tg iter : Expr} {ifs : List Expr} {scope : Scope} {own : List (Str × Nat)} {pos pos' : Pos} {wi : TI} {g : TG} {tt : TT} {tk tv : TE} {use : Option (Value → Sem Unit)} {Qf : Value → Shared → Prop}
    (hu : X.A.units + 64 < cLine) (hc : X.calm = true) (hN : X.N.Nodup) (I : Inv X pins σ H s) (hi : PI X tg iter wi) (ok : BlkOk X.N X.env.scope scope own)
    (hg : ∀ (s : Shared) (H : Hp) (C : Addr) (cl : List (Str × Addr)) (fp : List Addr), PG (X.blk s H scope (compEnvC scope cl C X.env) fp) tg g) (ht : ∀ (s : Shared) (H : Hp) (C : Addr) (cl : List (Str × Addr)) (fp : List Addr), PTs (X.blk s H scope (compEnvC scope cl C X.env) fp) ifs tt)
    (hk : ∀ (s : Shared) (H : Hp) (C : Addr) (cl : List (Str × Addr)) (fp : List Addr), PE (X.blk s H scope (compEnvC scope cl C X.env) fp) kx tk)
    (he : ∀ (s : Shared) (H : Hp) (C : Addr) (cl : List (Str × Addr)) (fp : List Addr), PE (X.blk s H scope (compEnvC scope cl C X.env) fp) vx tv) (hs : ∀ x, foldedSetIterable iter X.env x = pure x)
    (h : tDcN X.prog X.w X.K wi g tt tk tv (own.map (·.2)) σ H Q)
    (hRR : ∀ D C s' m H', Inv X pins σ H' s' → Q (.ref D) H' → s'.heap.Ns C m → FpOk X pins H' C → compPost (model X.prog X.w) X.A X.xe use Qf (.ref D) C (.ok .next) s') :
    wpAny (model X.prog X.w) X.A (comprehension (.DictComp kx vx [⟨tg, iter, ifs, 0⟩] scope pos) scope X.env pos' newDict false (eval iter X.env) use) Qf X.xe s := by
  have hfree : ∀ y ∈ scope.names, y.2 = .free → ∃ c, X.env.cells.lookup y.1 = some c := fun y hy e => by
    rcases ok.free y hy e with k | k
    · exact I.ok.has _ (.inl k)
    · exact I.ok.has _ (.inr k)
  refine wpAny_comprehension_free (use := use) rfl hs (closure_ok hfree) ok.kind (fun y hy e => by rw [ok.uniq y hy, e])
    (thn (hi.run pins s σ H _ I h) fun xv s1 hx => thn hx fun itv s2 h2 => ?_)
  obtain ⟨it, fp, tn, J, H2, e, I2, T, st2, f2, q⟩ := h2
  subst e
  refine wpAny_newObj_type (newEnv_comp ?_)
  generalize hD : s2.heap.objs.size = D
  have hDn : H2 D = none := I2.hok.fresh (Nat.le_of_eq hD)
  obtain ⟨W, ⟨m0, w0⟩, turn⟩ := q D hDn
  -- the new list
  generalize hs3 : ({ s2 with heap := s2.heap.push { cls := .type "dict", data := .dict #[] } } : Shared) = s3
  have I3 : Inv X pins σ (upd H2 D (NdO X.prog X.w D [])) s3 := by
    rw [← hs3]
    refine I2.laid (t' := s2.toks) (fun b o e => Heap.get?_push_of_some _ e) (Nat.le_of_eq hD) ?_
    rw [← hD]
    exact nd_obj (nd_new _ _ I2.big)
  have h3 : s3.heap = s2.heap.push { cls := .type "dict", data := .dict #[] } := by rw [← hs3]
  have sz : ∀ b ∈ fp, b < s2.heap.objs.size := fun b hb => by
    obtain ⟨o, e, _⟩ := T.obj _ _ st2 b hb
    exact Heap.lt_size e
  have f3 : ∀ b ∈ fp, FpOk X pins (upd H2 D (NdO X.prog X.w D [])) b ∧ b < s3.heap.objs.size := fun b hb => by
    have hlt := sz b hb
    refine ⟨⟨?_, (f2 b hb).2⟩, by rw [h3, Heap.size_push]; exact Nat.lt_succ_of_lt hlt⟩
    rw [upd_ne (by rw [← hD]; exact Nat.ne_of_lt hlt)]
    exact (f2 b hb).1
  have st3 : tn 0 s3.heap := T.keep _ _ _ st2 fun b _ o e => by rw [h3]; exact Heap.get?_push_of_some _ e
  have I4 := block_start I3 ok hN f3
  have pg := hg s3 (upd H2 D (NdO X.prog X.w D [])) s3.heap.objs.size (cellsFrom (s3.heap.objs.size + 1) scope.names (cloFrom X.env.cells scope.names [])) fp
  have pt := ht s3 (upd H2 D (NdO X.prog X.w D [])) s3.heap.objs.size (cellsFrom (s3.heap.objs.size + 1) scope.names (cloFrom X.env.cells scope.names [])) fp
  have pk := hk s3 (upd H2 D (NdO X.prog X.w D [])) s3.heap.objs.size (cellsFrom (s3.heap.objs.size + 1) scope.names (cloFrom X.env.cells scope.names [])) fp
  have pe := he s3 (upd H2 D (NdO X.prog X.w D [])) s3.heap.objs.size (cellsFrom (s3.heap.objs.size + 1) scope.names (cloFrom X.env.cells scope.names [])) fp
  show codeAny _ _ (.compStart (.DictComp kx vx [⟨tg, iter, ifs, 0⟩] scope pos) 0 (.ref it) (.ref D) (compEnvC scope (cellsFrom (s3.heap.objs.size + 1) scope.names (cloFrom X.env.cells scope.names [])) s3.heap.objs.size X.env)) (compPost (model X.prog X.w) X.A X.xe use Qf (.ref D) s3.heap.objs.size) { s3 with heap := pushCells (s3.heap.push { cls := .type "dict", data := .dict #[] }) scope.names }
  have nfp : ∀ b ∈ fp, (upd H2 D (NdO X.prog X.w D [])) b = none := fun b hb => (f3 b hb).1.1
  generalize hce : compEnvC scope (cellsFrom (s3.heap.objs.size + 1) scope.names (cloFrom X.env.cells scope.names [])) s3.heap.objs.size X.env = ce at I4 pg pt pk pe ⊢
  have cL : ce.locals = s3.heap.objs.size := by subst hce; rfl
  generalize hH3 : upd H2 D (NdO X.prog X.w D []) = H3 at I3 I4 pg pt pk pe w0 nfp f3
  generalize hs4 : ({ s3 with heap := pushCells (s3.heap.push { cls := .type "dict", data := .dict #[] }) scope.names } : Shared) = s4 at I4 ⊢
  have st4 : tn 0 s4.heap := T.keep _ _ _ st3 fun b _ o e => by rw [← hs4]; exact pushCells_keeps _ _ _ _ (Heap.get?_push_of_some _ e)
  have stat : ∀ {σ' : L2.St} {H' : Hp} {s' : Shared}, Inv (X.blk s3 H3 scope ce fp) [] σ' H' s' → (∀ b ∈ fp, H' b = none) → ∀ b ∈ fp, FpOk (X.blk s3 H3 scope ce fp) [] H' b := fun {σ' H' s'} I' hn b hb =>
    ⟨hn b hb, (I'.ok.exf b hb).1, I'.ok.exfs b hb, .inl hb, fun x c e => (I'.ok.exf b hb).2 x c e, fun p hp => absurd (show p ∈ ([] : List (Addr × Obj)) ++ [] from hp) (by simp)⟩
  have loop : codeAny (model X.prog X.w) X.A (.compLoop (.DictComp kx vx [⟨tg, iter, ifs, 0⟩] scope pos) 0 (.ref it) (.ref D) ce) (compPost (model X.prog X.w) X.A X.xe use Qf (.ref D) s3.heap.objs.size) s4 := by
    refine compLoop_anyD (fun n s' => ∃ i H', Inv (X.blk s3 H3 scope ce fp) [] (wipe σ (own.map (·.2))) H' s' ∧ tn i s'.heap ∧ (∀ b ∈ fp, H' b = none) ∧ W i n H') ?_ m0 ⟨0, H3, I4, st4, nfp, w0⟩
    rintro n s5 ⟨i, H5, I5, st5, n5, w5⟩
    rcases turn i n H5 w5 with ⟨stop, qq⟩ | ⟨go, Nx, hNx, step⟩
    · have td := T.done (X.blk s3 H3 scope ce fp) rfl rfl rfl hc i [] s5 _ H5 (fun _ _ => False) I5 (stat I5 n5) st5 stop
      refine thnF td fun r s6 ⟨hr, I6⟩ => ?_
      subst hr
      -- back in the def's context
      have I7 : Inv X pins σ H5 s6 := I3.call' (ch := fp) I6.os I6.base I6.hok I6.bare fun b hb => ⟨(f3 b hb).1.2.2.2.1, (f3 b hb).1.2.1, (f3 b hb).1.2.2.2.2.1, (f3 b hb).1.2.2.2.2.2⟩
      have nC : H5 s3.heap.objs.size = none := by
        have z : H5 ce.locals = none := I6.free
        rw [cL] at z
        exact z
      obtain ⟨m, hn, _⟩ := I6.loc
      have hn : s6.heap.Ns ce.locals m := hn
      rw [cL] at hn
      exact hRR D s3.heap.objs.size s6 m H5 I7 qq hn (I3.fpOk (Nat.le_refl _) nC)
    · have ti := T.item (X.blk s3 H3 scope ce fp) rfl rfl rfl hc i [] s5 _ H5 (fun _ _ => False) I5 (stat I5 n5) st5 go
      refine thnF ti fun r s6 ⟨u, hr, h6⟩ => ?_
      subst hr
      refine thnF h6 fun _ s7 ⟨x, H7, I7, r7, y7, st7, n7⟩ => ?_
      have I7' := I7.pinned (stat I7 n7) (T.obj _ _ st7)
      refine thnF (pg.run _ s7 _ H7 x u _ I7' r7 (step x H7 y7)) fun _ s8 ⟨σ8, H8, I8, hw8, q8⟩ => ?_
      refine thnF (pt.run _ s8 σ8 H8 _ I8 q8) fun b s9 ⟨H9, I9, q9⟩ => ?_
      -- the turn's end
      have fin : ∀ {s' : Shared} {H' : Hp}, Inv (X.blk s3 H3 scope ce fp) ([] ++ pinsAt fp s7.heap) σ8 H' s' → Nx H' → ∃ m, m < n ∧ ∃ i H', Inv (X.blk s3 H3 scope ce fp) [] (wipe σ (own.map (·.2))) H' s' ∧ tn i s'.heap ∧ (∀ b ∈ fp, H' b = none) ∧ W i m H' := fun {s' H'} I' nx => by
        obtain ⟨m', hm, w'⟩ := hNx H' nx
        have pin' : ∀ b ∈ fp, ∀ o, s7.heap.get? b = some o → s'.heap.get? b = some o ∧ H' b = none := fun b hb o e =>
          let z := I'.pin (b, o) (List.mem_append_right _ (List.mem_append_right _ (mem_pinsAt hb e)))
          ⟨z.1, z.2.1⟩
        have hl : (wipe σ (own.map (·.2))).length = σ8.length := by rw [← hw8, wipe_length]
        refine ⟨m', hm, i + 1, H', (I'.unpinned (pins := [])).weak hl (fun j v e => ?_), T.keep _ _ _ st7 fun b hb o e => (pin' b hb o e).1, fun b hb => ?_, w'⟩
        · rw [← hw8] at e
          exact (wipe_some e).1
        · obtain ⟨o, e, _⟩ := T.obj _ _ st7 b hb
          exact (pin' b hb o e).2
      cases b with
      | false =>
        simp only [Bool.false_eq_true, if_false] at q9 ⊢
        exact fin I9 q9
      | true =>
        simp only [if_true] at q9 ⊢
        refine thnF (pk.run _ s9 σ8 H9 _ I9 q9) fun z s10 ⟨yk, H10, I10, r10, q10⟩ => ?_
        refine thnF (pe.run _ s10 σ8 H10 _ I10 q10) fun z2 s11 ⟨yv, H11, I11, r11, E11, ds11, a11, ek, hD11, hk11, hy11, hd11, hn11, hz11, nx⟩ => ?_
        subst ek
        exact (nd_dictSet (X := X.blk s3 H3 scope ce fp) I11 hD11 hk11 hy11 hd11 hn11 hz11 r10 r11 (fun s12 I12 => fin I12 nx) hu)
  exact codeAny_compStart_dict loop (T.self X.A 0 _ _ _ st4 loop)
/-- as a value -/
theorem pe_dcN {kx vx tg iter : Expr} {ifs : List Expr} {scope : Scope} {own : List (Str × Nat)} {pos : Pos} {wi : TI} {g : TG} {tt : TT} {tk tv : TE} (hu : X.A.units + 64 < cLine) (hc : X.calm = true) (hN : X.N.Nodup) (hi : PI X tg iter wi) (ok : BlkOk X.N X.env.scope scope own)
    (hg : ∀ (s : Shared) (H : Hp) (C : Addr) (cl : List (Str × Addr)) (fp : List Addr), PG (X.blk s H scope (compEnvC scope cl C X.env) fp) tg g) (ht : ∀ (s : Shared) (H : Hp) (C : Addr) (cl : List (Str × Addr)) (fp : List Addr), PTs (X.blk s H scope (compEnvC scope cl C X.env) fp) ifs tt)
    (hk : ∀ (s : Shared) (H : Hp) (C : Addr) (cl : List (Str × Addr)) (fp : List Addr), PE (X.blk s H scope (compEnvC scope cl C X.env) fp) kx tk)
    (he : ∀ (s : Shared) (H : Hp) (C : Addr) (cl : List (Str × Addr)) (fp : List Addr), PE (X.blk s H scope (compEnvC scope cl C X.env) fp) vx tv) (hs : ∀ x, foldedSetIterable iter X.env x = pure x := by intro _; rfl) :
    PE X (.DictComp kx vx [⟨tg, iter, ifs, 0⟩] scope pos) (tDcN X.prog X.w X.K wi g tt tk tv (own.map (·.2))) := by
  refine ⟨fun pins s σ H Q I h => ?_⟩
  rw [arm_eval_DictComp]
  refine dcN_core hu hc hN I hi ok hg ht hk he hs h fun D C s' m H' I' q hn f => ⟨m, hn, fun h'' sb => ?_⟩
  obtain ⟨f0, f1, f2, f3, f4, f5⟩ := f
  exact ⟨.ref D, H', I'.turned (t' := s'.toks) (fun b o hb e => (sb.2 b hb).trans e) f0 f1 f3 f4 f5, rfl, q⟩
end
end RP
set_option maxHeartbeats 0
namespace RP
open PySem PySem.Spec PyProof.Rows L2
/-! ### the text by places -/
def top (i : Nat) : Stmt := PySem.Challenge.pw_rateplan_k95_whole_rules_that_tell_plans.main.body.getD i (.Pass ⟨0, 0, 0, 0⟩)
abbrev s_is_rate : Stmt := top 6
abbrev s_rate_by : Stmt := top 7
abbrev s_seen_at : Stmt := top 8
abbrev s_look_room : Stmt := top 23
abbrev s_first_stand : Stmt := top 24
abbrev s_is_over : Stmt := top 25
abbrev s_has_room : Stmt := top 26
abbrev s_asks : Stmt := top 27
abbrev s_chosen : Stmt := top 28
abbrev s_begins : Stmt := top 29
abbrev s_played_on : Stmt := top 30
abbrev s_beat_on : Stmt := top 31
abbrev s_is_coming : Stmt := top 34
abbrev s_is_stand : Stmt := top 35
abbrev s_run_of : Stmt := top 40
abbrev s_is_of_kind : Stmt := top 44
abbrev s_leads_within : Stmt := top 50
abbrev s_never_holds : Stmt := top 51
abbrev s_stalls_holds : Stmt := top 52
abbrev s_never_stalls : Stmt := top 55
abbrev s_is_count : Stmt := top 63
abbrev s_law_deck : Stmt := top 66
abbrev s_law_draw : Stmt := top 67
abbrev s_law_rule : Stmt := top 68
abbrev s_law_telling : Stmt := top 69
abbrev s_law_odd : Stmt := top 70
abbrev s_law_talk : Stmt := top 71
abbrev s_law_options : Stmt := top 72
abbrev s_law_fields : Stmt := top 73
abbrev s_law_run : Stmt := top 74
abbrev s_law_runs_right : Stmt := top 75
abbrev s_law_never : Stmt := top 76
abbrev s_law_nevers_right : Stmt := top 77
abbrev s_law : Stmt := top 78
abbrev s_is_whole_stands : Stmt := top 32
abbrev s_is_whole_kinds : Stmt := top 42
abbrev s_is_whole_watches : Stmt := top 46
abbrev s_TooMany_init : Stmt := inClass (top 10) 0
abbrev s_Speed_init : Stmt := inClass (top 16) 0
abbrev s_Speed_floor : Stmt := inClass (top 16) 4
abbrev s_Walk_init : Stmt := inClass (top 37) 0
abbrev s_Walk_is_at_end : Stmt := inClass (top 37) 1
abbrev s_Walk_asks_here : Stmt := inClass (top 37) 2
abbrev s_Walk_choose_here : Stmt := inClass (top 37) 3
abbrev s_Walk_step_on : Stmt := inClass (top 37) 4
abbrev s_Run_init : Stmt := inClass (top 39) 0
abbrev s_Run_all_told : Stmt := inClass (top 39) 1
abbrev s_Run_eq : Stmt := inClass (top 39) 2
abbrev s_Guard_init : Stmt := inClass (top 48) 0
abbrev s_Guard_choice_at : Stmt := inClass (top 48) 1
abbrev s_Guard_first_watch : Stmt := inClass (top 48) 2
abbrev s_Guard_speeds_let : Stmt := inClass (top 48) 3
abbrev s_Guard_led : Stmt := inClass (top 48) 4
abbrev s_Guard_is_stand_on : Stmt := inClass (top 48) 5
abbrev s_Guard_is_last : Stmt := inClass (top 48) 6
abbrev s_Guard_is_past : Stmt := inClass (top 48) 7
abbrev s_Guard_is_watch : Stmt := inClass (top 48) 8
abbrev s_Search_init : Stmt := inClass (top 54) 0
abbrev s_Search_come : Stmt := inClass (top 54) 1
abbrev s_Search_road_to : Stmt := inClass (top 54) 2
abbrev s_Search_told : Stmt := inClass (top 54) 3
abbrev s_Road_init : Stmt := inClass (top 59) 0
abbrev s_Road_speed_at : Stmt := inClass (top 59) 5
abbrev s_Talk_init : Stmt := inClass (top 61) 0
abbrev s_Talk_len : Stmt := inClass (top 61) 1
abbrev s_Talk_many_rates : Stmt := inClass (top 61) 5
abbrev s_Tape_init : Stmt := inClass (top 64) 0
abbrev s_Tape_tell : Stmt := inClass (top 64) 4
abbrev s_Tape_walked : Stmt := inClass (top 64) 5
abbrev s_Tape_stand_behind : Stmt := inClass (top 64) 6
abbrev s_Tape_chosen_till : Stmt := inClass (top 64) 8
/-! ### the defs as data -/
def d_is_rate : He.DefD := ⟨("is_rate", none), "is_rate", "is_rate", defArgs s_is_rate, defBody s_is_rate, defScope s_is_rate, [], []⟩
def d_rate_by : He.DefD := ⟨("rate_by", none), "rate_by", "rate_by", defArgs s_rate_by, defBody s_rate_by, defScope s_rate_by, [], []⟩
def d_seen_at : He.DefD := ⟨("seen_at", none), "seen_at", "seen_at", defArgs s_seen_at, defBody s_seen_at, defScope s_seen_at, [], []⟩
def d_look_room : He.DefD := ⟨("look_room", none), "look_room", "look_room", defArgs s_look_room, defBody s_look_room, defScope s_look_room, [], []⟩
def d_first_stand : He.DefD := ⟨("first_stand", none), "first_stand", "first_stand", defArgs s_first_stand, defBody s_first_stand, defScope s_first_stand, [], []⟩
def d_is_over : He.DefD := ⟨("is_over", none), "is_over", "is_over", defArgs s_is_over, defBody s_is_over, defScope s_is_over, [], []⟩
def d_has_room : He.DefD := ⟨("has_room", none), "has_room", "has_room", defArgs s_has_room, defBody s_has_room, defScope s_has_room, [], []⟩
def d_asks : He.DefD := ⟨("asks", none), "asks", "asks", defArgs s_asks, defBody s_asks, defScope s_asks, [], [("most", .int 30)]⟩
def d_chosen : He.DefD := ⟨("chosen", none), "chosen", "chosen", defArgs s_chosen, defBody s_chosen, defScope s_chosen, [], [("wait", .int 0)]⟩
def d_begins : He.DefD := ⟨("begins", none), "begins", "begins", defArgs s_begins, defBody s_begins, defScope s_begins, [], []⟩
def d_played_on : He.DefD := ⟨("played_on", none), "played_on", "played_on", defArgs s_played_on, defBody s_played_on, defScope s_played_on, [], []⟩
def d_beat_on : He.DefD := ⟨("beat_on", none), "beat_on", "beat_on", defArgs s_beat_on, defBody s_beat_on, defScope s_beat_on, [], []⟩
def d_is_coming : He.DefD := ⟨("is_coming", none), "is_coming", "is_coming", defArgs s_is_coming, defBody s_is_coming, defScope s_is_coming, [], []⟩
def d_is_stand : He.DefD := ⟨("is_stand", none), "is_stand", "is_stand", defArgs s_is_stand, defBody s_is_stand, defScope s_is_stand, [], [("most", .int 30), ("wait", .int 0)]⟩
def d_run_of : He.DefD := ⟨("run_of", none), "run_of", "run_of", defArgs s_run_of, defBody s_run_of, defScope s_run_of, [], [("begin", .int 4), ("again", .int 8), ("most", .int 30), ("wait", .int 0), ("opens", .non)]⟩
def d_is_of_kind : He.DefD := ⟨("is_of_kind", none), "is_of_kind", "is_of_kind", defArgs s_is_of_kind, defBody s_is_of_kind, defScope s_is_of_kind, [], []⟩
def d_leads_within : He.DefD := ⟨("leads_within", none), "leads_within", "leads_within", defArgs s_leads_within, defBody s_leads_within, defScope s_leads_within, [], []⟩
def d_never_holds : He.DefD := ⟨("never_holds", none), "never_holds", "never_holds", defArgs s_never_holds, defBody s_never_holds, defScope s_never_holds, [], [("begin", .int 4), ("again", .int 8), ("most", .int 30), ("wait", .int 0)]⟩
def d_stalls_holds : He.DefD := ⟨("stalls_holds", none), "stalls_holds", "stalls_holds", defArgs s_stalls_holds, defBody s_stalls_holds, defScope s_stalls_holds, [], [("begin", .int 4), ("again", .int 8), ("most", .int 30), ("wait", .int 0)]⟩
def d_never_stalls : He.DefD := ⟨("never_stalls", none), "never_stalls", "never_stalls", defArgs s_never_stalls, defBody s_never_stalls, defScope s_never_stalls, [], [("limit", .int 2000), ("begin", .int 4), ("again", .int 8), ("most", .int 30), ("wait", .int 0)]⟩
def d_is_count : He.DefD := ⟨("is_count", none), "is_count", "is_count", defArgs s_is_count, defBody s_is_count, defScope s_is_count, [], []⟩
def d_law_deck : He.DefD := ⟨("_law_deck", none), "_law_deck", "_law_deck", defArgs s_law_deck, defBody s_law_deck, defScope s_law_deck, [], []⟩
def d_law_draw : He.DefD := ⟨("_law_draw", none), "_law_draw", "_law_draw", defArgs s_law_draw, defBody s_law_draw, defScope s_law_draw, [], []⟩
def d_law_rule : He.DefD := ⟨("_law_rule", none), "_law_rule", "_law_rule", defArgs s_law_rule, defBody s_law_rule, defScope s_law_rule, [], []⟩
def d_law_telling : He.DefD := ⟨("_law_telling", none), "_law_telling", "_law_telling", defArgs s_law_telling, defBody s_law_telling, defScope s_law_telling, [], []⟩
def d_law_odd : He.DefD := ⟨("_law_odd", none), "_law_odd", "_law_odd", defArgs s_law_odd, defBody s_law_odd, defScope s_law_odd, [], []⟩
def d_law_talk : He.DefD := ⟨("_law_talk", none), "_law_talk", "_law_talk", defArgs s_law_talk, defBody s_law_talk, defScope s_law_talk, [], []⟩
def d_law_options : He.DefD := ⟨("_law_options", none), "_law_options", "_law_options", defArgs s_law_options, defBody s_law_options, defScope s_law_options, [], []⟩
def d_law_fields : He.DefD := ⟨("_law_fields", none), "_law_fields", "_law_fields", defArgs s_law_fields, defBody s_law_fields, defScope s_law_fields, [], []⟩
def d_law_run : He.DefD := ⟨("_law_run", none), "_law_run", "_law_run", defArgs s_law_run, defBody s_law_run, defScope s_law_run, [], []⟩
def d_law_runs_right : He.DefD := ⟨("_law_runs_right", none), "_law_runs_right", "_law_runs_right", defArgs s_law_runs_right, defBody s_law_runs_right, defScope s_law_runs_right, [], []⟩
def d_law_never : He.DefD := ⟨("_law_never", none), "_law_never", "_law_never", defArgs s_law_never, defBody s_law_never, defScope s_law_never, [], []⟩
def d_law_nevers_right : He.DefD := ⟨("_law_nevers_right", none), "_law_nevers_right", "_law_nevers_right", defArgs s_law_nevers_right, defBody s_law_nevers_right, defScope s_law_nevers_right, [], []⟩
def d_law : He.DefD := ⟨("law", none), "law", "law", defArgs s_law, defBody s_law, defScope s_law, [], []⟩
def d_is_whole_stands : He.DefD := ⟨("is_whole_stands", none), "is_whole", "is_whole", defArgs s_is_whole_stands, defBody s_is_whole_stands, defScope s_is_whole_stands, [], []⟩
def d_is_whole_kinds : He.DefD := ⟨("is_whole_kinds", none), "is_whole", "is_whole", defArgs s_is_whole_kinds, defBody s_is_whole_kinds, defScope s_is_whole_kinds, [], []⟩
def d_is_whole_watches : He.DefD := ⟨("is_whole_watches", none), "is_whole", "is_whole", defArgs s_is_whole_watches, defBody s_is_whole_watches, defScope s_is_whole_watches, [], []⟩
def d_TooMany_init : He.DefD := ⟨("TooMany", some "__init__"), "__init__", "TooMany.__init__", defArgs s_TooMany_init, defBody s_TooMany_init, defScope s_TooMany_init, [], []⟩
def d_Speed_init : He.DefD := ⟨("Speed", some "__init__"), "__init__", "Speed.__init__", defArgs s_Speed_init, defBody s_Speed_init, defScope s_Speed_init, [], []⟩
def d_Speed_floor : He.DefD := ⟨("Speed", some "floor"), "floor", "Speed.floor", defArgs s_Speed_floor, defBody s_Speed_floor, defScope s_Speed_floor, [], []⟩
def d_Walk_init : He.DefD := ⟨("Walk", some "__init__"), "__init__", "Walk.__init__", defArgs s_Walk_init, defBody s_Walk_init, defScope s_Walk_init, [], [("begin", .int 4), ("again", .int 8), ("most", .int 30), ("wait", .int 0), ("opens", .non)]⟩
def d_Walk_is_at_end : He.DefD := ⟨("Walk", some "is_at_end"), "is_at_end", "Walk.is_at_end", defArgs s_Walk_is_at_end, defBody s_Walk_is_at_end, defScope s_Walk_is_at_end, [], []⟩
def d_Walk_asks_here : He.DefD := ⟨("Walk", some "asks_here"), "asks_here", "Walk.asks_here", defArgs s_Walk_asks_here, defBody s_Walk_asks_here, defScope s_Walk_asks_here, [], []⟩
def d_Walk_choose_here : He.DefD := ⟨("Walk", some "choose_here"), "choose_here", "Walk.choose_here", defArgs s_Walk_choose_here, defBody s_Walk_choose_here, defScope s_Walk_choose_here, [], []⟩
def d_Walk_step_on : He.DefD := ⟨("Walk", some "step_on"), "step_on", "Walk.step_on", defArgs s_Walk_step_on, defBody s_Walk_step_on, defScope s_Walk_step_on, [], []⟩
def d_Run_init : He.DefD := ⟨("Run", some "__init__"), "__init__", "Run.__init__", defArgs s_Run_init, defBody s_Run_init, defScope s_Run_init, [], []⟩
def d_Run_all_told : He.DefD := ⟨("Run", some "all_told"), "all_told", "Run.all_told", defArgs s_Run_all_told, defBody s_Run_all_told, defScope s_Run_all_told, [], []⟩
def d_Run_eq : He.DefD := ⟨("Run", some "__eq__"), "__eq__", "Run.__eq__", defArgs s_Run_eq, defBody s_Run_eq, defScope s_Run_eq, [], []⟩
def d_Guard_init : He.DefD := ⟨("Guard", some "__init__"), "__init__", "Guard.__init__", defArgs s_Guard_init, defBody s_Guard_init, defScope s_Guard_init, [], [("begin", .int 4), ("again", .int 8), ("most", .int 30), ("wait", .int 0)]⟩
def d_Guard_choice_at : He.DefD := ⟨("Guard", some "choice_at"), "choice_at", "Guard.choice_at", defArgs s_Guard_choice_at, defBody s_Guard_choice_at, defScope s_Guard_choice_at, [], []⟩
def d_Guard_first_watch : He.DefD := ⟨("Guard", some "first_watch"), "first_watch", "Guard.first_watch", defArgs s_Guard_first_watch, defBody s_Guard_first_watch, defScope s_Guard_first_watch, [], []⟩
def d_Guard_speeds_let : He.DefD := ⟨("Guard", some "speeds_let"), "speeds_let", "Guard.speeds_let", defArgs s_Guard_speeds_let, defBody s_Guard_speeds_let, defScope s_Guard_speeds_let, [], []⟩
def d_Guard_led : He.DefD := ⟨("Guard", some "led"), "led", "Guard.led", defArgs s_Guard_led, defBody s_Guard_led, defScope s_Guard_led, [], []⟩
def d_Guard_is_stand_on : He.DefD := ⟨("Guard", some "is_stand_on"), "is_stand_on", "Guard.is_stand_on", defArgs s_Guard_is_stand_on, defBody s_Guard_is_stand_on, defScope s_Guard_is_stand_on, [], []⟩
def d_Guard_is_last : He.DefD := ⟨("Guard", some "is_last"), "is_last", "Guard.is_last", defArgs s_Guard_is_last, defBody s_Guard_is_last, defScope s_Guard_is_last, [], []⟩
def d_Guard_is_past : He.DefD := ⟨("Guard", some "is_past"), "is_past", "Guard.is_past", defArgs s_Guard_is_past, defBody s_Guard_is_past, defScope s_Guard_is_past, [], []⟩
def d_Guard_is_watch : He.DefD := ⟨("Guard", some "is_watch"), "is_watch", "Guard.is_watch", defArgs s_Guard_is_watch, defBody s_Guard_is_watch, defScope s_Guard_is_watch, [], []⟩
def d_Search_init : He.DefD := ⟨("Search", some "__init__"), "__init__", "Search.__init__", defArgs s_Search_init, defBody s_Search_init, defScope s_Search_init, [], []⟩
def d_Search_come : He.DefD := ⟨("Search", some "come"), "come", "Search.come", defArgs s_Search_come, defBody s_Search_come, defScope s_Search_come, [], []⟩
def d_Search_road_to : He.DefD := ⟨("Search", some "road_to"), "road_to", "Search.road_to", defArgs s_Search_road_to, defBody s_Search_road_to, defScope s_Search_road_to, [], []⟩
def d_Search_told : He.DefD := ⟨("Search", some "told"), "told", "Search.told", defArgs s_Search_told, defBody s_Search_told, defScope s_Search_told, [], []⟩
def d_Road_init : He.DefD := ⟨("Road", some "__init__"), "__init__", "Road.__init__", defArgs s_Road_init, defBody s_Road_init, defScope s_Road_init, [], []⟩
def d_Road_speed_at : He.DefD := ⟨("Road", some "speed_at"), "speed_at", "Road.speed_at", defArgs s_Road_speed_at, defBody s_Road_speed_at, defScope s_Road_speed_at, [], []⟩
def d_Talk_init : He.DefD := ⟨("Talk", some "__init__"), "__init__", "Talk.__init__", defArgs s_Talk_init, defBody s_Talk_init, defScope s_Talk_init, [], []⟩
def d_Talk_len : He.DefD := ⟨("Talk", some "__len__"), "__len__", "Talk.__len__", defArgs s_Talk_len, defBody s_Talk_len, defScope s_Talk_len, [], []⟩
def d_Talk_many_rates : He.DefD := ⟨("Talk", some "many_rates"), "many_rates", "Talk.many_rates", defArgs s_Talk_many_rates, defBody s_Talk_many_rates, defScope s_Talk_many_rates, [], []⟩
def d_Tape_init : He.DefD := ⟨("Tape", some "__init__"), "__init__", "Tape.__init__", defArgs s_Tape_init, defBody s_Tape_init, defScope s_Tape_init, [], [("begin", .int 4), ("again", .int 8), ("most", .int 30), ("wait", .int 0)]⟩
def d_Tape_tell : He.DefD := ⟨("Tape", some "tell"), "tell", "Tape.tell", defArgs s_Tape_tell, defBody s_Tape_tell, defScope s_Tape_tell, [], []⟩
def d_Tape_walked : He.DefD := ⟨("Tape", some "walked"), "walked", "Tape.walked", defArgs s_Tape_walked, defBody s_Tape_walked, defScope s_Tape_walked, [], []⟩
def d_Tape_stand_behind : He.DefD := ⟨("Tape", some "stand_behind"), "stand_behind", "Tape.stand_behind", defArgs s_Tape_stand_behind, defBody s_Tape_stand_behind, defScope s_Tape_stand_behind, [], []⟩
def d_Tape_chosen_till : He.DefD := ⟨("Tape", some "chosen_till"), "chosen_till", "Tape.chosen_till", defArgs s_Tape_chosen_till, defBody s_Tape_chosen_till, defScope s_Tape_chosen_till, [], []⟩
def fn : List He.DefD := [d_is_rate, d_rate_by, d_seen_at, d_look_room, d_first_stand, d_is_over, d_has_room, d_asks, d_chosen, d_begins, d_played_on, d_beat_on, d_is_coming, d_is_stand, d_run_of, d_is_of_kind, d_leads_within, d_never_holds, d_stalls_holds, d_never_stalls, d_is_count, d_law_deck, d_law_draw, d_law_rule, d_law_telling, d_law_odd, d_law_talk, d_law_options, d_law_fields, d_law_run, d_law_runs_right, d_law_never, d_law_nevers_right, d_law, d_is_whole_stands, d_is_whole_kinds, d_is_whole_watches, d_TooMany_init, d_Speed_init, d_Speed_floor, d_Walk_init, d_Walk_is_at_end, d_Walk_asks_here, d_Walk_choose_here, d_Walk_step_on, d_Run_init, d_Run_all_told, d_Run_eq, d_Guard_init, d_Guard_choice_at, d_Guard_first_watch, d_Guard_speeds_let, d_Guard_led, d_Guard_is_stand_on, d_Guard_is_last, d_Guard_is_past, d_Guard_is_watch, d_Search_init, d_Search_come, d_Search_road_to, d_Search_told, d_Road_init, d_Road_speed_at, d_Talk_init, d_Talk_len, d_Talk_many_rates, d_Tape_init, d_Tape_tell, d_Tape_walked, d_Tape_stand_behind, d_Tape_chosen_till]
def fa : List He.Fa := [.glo "is_rate", .glo "rate_by", .glo "seen_at", .glo "look_room", .glo "first_stand", .glo "is_over", .glo "has_room", .glo "asks", .glo "chosen", .glo "begins", .glo "played_on", .glo "beat_on", .glo "is_coming", .glo "is_stand", .glo "run_of", .glo "is_of_kind", .glo "leads_within", .glo "never_holds", .glo "stalls_holds", .glo "never_stalls", .glo "is_count", .glo "_law_deck", .glo "_law_draw", .glo "_law_rule", .glo "_law_telling", .glo "_law_odd", .glo "_law_talk", .glo "_law_options", .glo "_law_fields", .glo "_law_run", .glo "_law_runs_right", .glo "_law_never", .glo "_law_nevers_right", .glo "law", .glo "is_whole_stands", .glo "is_whole_kinds", .glo "is_whole_watches", .glo "Speed", .glo "Walk", .glo "Run", .glo "Guard", .glo "Search", .glo "Road", .glo "Talk", .glo "Tape", .glo "TooMany", .free "isinstance", .free "int", .free "bool", .free "tuple", .free "len", .free "range", .free "sum", .free "all", .free "enumerate", .free "zip", .free "max", .free "min", .free "list", .free "repr", .free "sorted", .free "ValueError", .free "Exception", .int "BEGIN" (4), .int "AGAIN" (8), .int "MOST" (30), .int "LIMIT" (2000), .int "NONE" (-1), .int "AHEAD" (0), .int "PLAYS" (1), .int "STALLS" (2), .cls "Speed", .mkr "Speed", .noat "Speed" "bits", .noat "Speed" "beats", .cls "Walk", .mkr "Walk", .noat "Walk" "talk_walked", .noat "Walk" "chooser_asked", .noat "Walk" "limits", .noat "Walk" "waiting", .noat "Walk" "opening", .noat "Walk" "stand_here", .noat "Walk" "beat_here", .noat "Walk" "rate_last", .noat "Walk" "speed_last", .noat "Walk" "rates", .noat "Walk" "begun", .noat "Walk" "whole", .noat "Walk" "plays", .noat "Walk" "stalls", .noat "Walk" "kept", .cls "Run", .mkr "Run", .noat "Run" "rates", .noat "Run" "begun", .noat "Run" "whole", .noat "Run" "plays", .noat "Run" "stalls", .noat "Run" "ended", .noat "Run" "kept", .cls "Guard", .mkr "Guard", .noat "Guard" "talk_told", .noat "Guard" "chooser_told", .noat "Guard" "limits", .noat "Guard" "waiting", .noat "Guard" "slow", .noat "Guard" "fast", .noat "Guard" "many_slow", .noat "Guard" "wide", .cls "Search", .mkr "Search", .noat "Search" "guard_asked", .noat "Search" "most_watches", .noat "Search" "order", .noat "Search" "ways", .cls "Road", .mkr "Road", .noat "Road" "pieces", .cls "Talk", .mkr "Talk", .noat "Talk" "lengths", .noat "Talk" "sizes", .cls "Tape", .mkr "Tape", .noat "Tape" "talk_told", .noat "Tape" "chooser_told", .noat "Tape" "options_told", .noat "Tape" "paces", .meth "Speed" "floor", .meth "Walk" "is_at_end", .meth "Walk" "asks_here", .meth "Walk" "choose_here", .meth "Walk" "step_on", .meth "Run" "all_told", .meth "Run" "__eq__", .meth "Guard" "choice_at", .meth "Guard" "first_watch", .meth "Guard" "speeds_let", .meth "Guard" "led", .meth "Guard" "is_stand_on", .meth "Guard" "is_last", .meth "Guard" "is_past", .meth "Guard" "is_watch", .meth "Search" "come", .meth "Search" "road_to", .meth "Search" "told", .meth "Road" "speed_at", .meth "Talk" "__len__", .meth "Talk" "many_rates", .meth "Tape" "tell", .meth "Tape" "walked", .meth "Tape" "stand_behind", .meth "Tape" "chosen_till", .glo "FIRST"]
/-! ### the facts, each by its name -/
structure Txt (K : PySem.W.Frag) (mg : Str → Option Value) : Prop where
  h : ∃ h : Heap, K.In h ∧ h.Ns mainGlobals mg
  s : He.SaysD fa fn K
  ex : Ex K
abbrev cSpeed (K : PySem.W.Frag) : Addr := He.ga K "Speed"
abbrev cWalk (K : PySem.W.Frag) : Addr := He.ga K "Walk"
abbrev cRun (K : PySem.W.Frag) : Addr := He.ga K "Run"
abbrev cGuard (K : PySem.W.Frag) : Addr := He.ga K "Guard"
abbrev cSearch (K : PySem.W.Frag) : Addr := He.ga K "Search"
abbrev cRoad (K : PySem.W.Frag) : Addr := He.ga K "Road"
abbrev cTalk (K : PySem.W.Frag) : Addr := He.ga K "Talk"
abbrev cTape (K : PySem.W.Frag) : Addr := He.ga K "Tape"
namespace Txt
section
variable {K : PySem.W.Frag} {mg : Str → Option Value} (T : Txt K mg)
include T
theorem g_is_rate : mg "is_rate" = some (.ref (He.ga K "is_rate")) := let ⟨_, X, G⟩ := T.h; He.glo_ok X G (T.s.fact 0)
theorem g_rate_by : mg "rate_by" = some (.ref (He.ga K "rate_by")) := let ⟨_, X, G⟩ := T.h; He.glo_ok X G (T.s.fact 1)
theorem g_seen_at : mg "seen_at" = some (.ref (He.ga K "seen_at")) := let ⟨_, X, G⟩ := T.h; He.glo_ok X G (T.s.fact 2)
theorem g_look_room : mg "look_room" = some (.ref (He.ga K "look_room")) := let ⟨_, X, G⟩ := T.h; He.glo_ok X G (T.s.fact 3)
theorem g_first_stand : mg "first_stand" = some (.ref (He.ga K "first_stand")) := let ⟨_, X, G⟩ := T.h; He.glo_ok X G (T.s.fact 4)
theorem g_is_over : mg "is_over" = some (.ref (He.ga K "is_over")) := let ⟨_, X, G⟩ := T.h; He.glo_ok X G (T.s.fact 5)
theorem g_has_room : mg "has_room" = some (.ref (He.ga K "has_room")) := let ⟨_, X, G⟩ := T.h; He.glo_ok X G (T.s.fact 6)
theorem g_asks : mg "asks" = some (.ref (He.ga K "asks")) := let ⟨_, X, G⟩ := T.h; He.glo_ok X G (T.s.fact 7)
theorem g_chosen : mg "chosen" = some (.ref (He.ga K "chosen")) := let ⟨_, X, G⟩ := T.h; He.glo_ok X G (T.s.fact 8)
theorem g_begins : mg "begins" = some (.ref (He.ga K "begins")) := let ⟨_, X, G⟩ := T.h; He.glo_ok X G (T.s.fact 9)
theorem g_played_on : mg "played_on" = some (.ref (He.ga K "played_on")) := let ⟨_, X, G⟩ := T.h; He.glo_ok X G (T.s.fact 10)
theorem g_beat_on : mg "beat_on" = some (.ref (He.ga K "beat_on")) := let ⟨_, X, G⟩ := T.h; He.glo_ok X G (T.s.fact 11)
theorem g_is_coming : mg "is_coming" = some (.ref (He.ga K "is_coming")) := let ⟨_, X, G⟩ := T.h; He.glo_ok X G (T.s.fact 12)
theorem g_is_stand : mg "is_stand" = some (.ref (He.ga K "is_stand")) := let ⟨_, X, G⟩ := T.h; He.glo_ok X G (T.s.fact 13)
theorem g_run_of : mg "run_of" = some (.ref (He.ga K "run_of")) := let ⟨_, X, G⟩ := T.h; He.glo_ok X G (T.s.fact 14)
theorem g_is_of_kind : mg "is_of_kind" = some (.ref (He.ga K "is_of_kind")) := let ⟨_, X, G⟩ := T.h; He.glo_ok X G (T.s.fact 15)
theorem g_leads_within : mg "leads_within" = some (.ref (He.ga K "leads_within")) := let ⟨_, X, G⟩ := T.h; He.glo_ok X G (T.s.fact 16)
theorem g_never_holds : mg "never_holds" = some (.ref (He.ga K "never_holds")) := let ⟨_, X, G⟩ := T.h; He.glo_ok X G (T.s.fact 17)
theorem g_stalls_holds : mg "stalls_holds" = some (.ref (He.ga K "stalls_holds")) := let ⟨_, X, G⟩ := T.h; He.glo_ok X G (T.s.fact 18)
theorem g_never_stalls : mg "never_stalls" = some (.ref (He.ga K "never_stalls")) := let ⟨_, X, G⟩ := T.h; He.glo_ok X G (T.s.fact 19)
theorem g_is_count : mg "is_count" = some (.ref (He.ga K "is_count")) := let ⟨_, X, G⟩ := T.h; He.glo_ok X G (T.s.fact 20)
theorem g_law_deck : mg "_law_deck" = some (.ref (He.ga K "_law_deck")) := let ⟨_, X, G⟩ := T.h; He.glo_ok X G (T.s.fact 21)
theorem g_law_draw : mg "_law_draw" = some (.ref (He.ga K "_law_draw")) := let ⟨_, X, G⟩ := T.h; He.glo_ok X G (T.s.fact 22)
theorem g_law_rule : mg "_law_rule" = some (.ref (He.ga K "_law_rule")) := let ⟨_, X, G⟩ := T.h; He.glo_ok X G (T.s.fact 23)
theorem g_law_telling : mg "_law_telling" = some (.ref (He.ga K "_law_telling")) := let ⟨_, X, G⟩ := T.h; He.glo_ok X G (T.s.fact 24)
theorem g_law_odd : mg "_law_odd" = some (.ref (He.ga K "_law_odd")) := let ⟨_, X, G⟩ := T.h; He.glo_ok X G (T.s.fact 25)
theorem g_law_talk : mg "_law_talk" = some (.ref (He.ga K "_law_talk")) := let ⟨_, X, G⟩ := T.h; He.glo_ok X G (T.s.fact 26)
theorem g_law_options : mg "_law_options" = some (.ref (He.ga K "_law_options")) := let ⟨_, X, G⟩ := T.h; He.glo_ok X G (T.s.fact 27)
theorem g_law_fields : mg "_law_fields" = some (.ref (He.ga K "_law_fields")) := let ⟨_, X, G⟩ := T.h; He.glo_ok X G (T.s.fact 28)
theorem g_law_run : mg "_law_run" = some (.ref (He.ga K "_law_run")) := let ⟨_, X, G⟩ := T.h; He.glo_ok X G (T.s.fact 29)
theorem g_law_runs_right : mg "_law_runs_right" = some (.ref (He.ga K "_law_runs_right")) := let ⟨_, X, G⟩ := T.h; He.glo_ok X G (T.s.fact 30)
theorem g_law_never : mg "_law_never" = some (.ref (He.ga K "_law_never")) := let ⟨_, X, G⟩ := T.h; He.glo_ok X G (T.s.fact 31)
theorem g_law_nevers_right : mg "_law_nevers_right" = some (.ref (He.ga K "_law_nevers_right")) := let ⟨_, X, G⟩ := T.h; He.glo_ok X G (T.s.fact 32)
theorem g_law : mg "law" = some (.ref (He.ga K "law")) := let ⟨_, X, G⟩ := T.h; He.glo_ok X G (T.s.fact 33)
theorem g_is_whole_stands : mg "is_whole_stands" = some (.ref (He.ga K "is_whole_stands")) := let ⟨_, X, G⟩ := T.h; He.glo_ok X G (T.s.fact 34)
theorem g_is_whole_kinds : mg "is_whole_kinds" = some (.ref (He.ga K "is_whole_kinds")) := let ⟨_, X, G⟩ := T.h; He.glo_ok X G (T.s.fact 35)
theorem g_is_whole_watches : mg "is_whole_watches" = some (.ref (He.ga K "is_whole_watches")) := let ⟨_, X, G⟩ := T.h; He.glo_ok X G (T.s.fact 36)
theorem g_Speed : mg "Speed" = some (.ref (He.ga K "Speed")) := let ⟨_, X, G⟩ := T.h; He.glo_ok X G (T.s.fact 37)
theorem g_Walk : mg "Walk" = some (.ref (He.ga K "Walk")) := let ⟨_, X, G⟩ := T.h; He.glo_ok X G (T.s.fact 38)
theorem g_Run : mg "Run" = some (.ref (He.ga K "Run")) := let ⟨_, X, G⟩ := T.h; He.glo_ok X G (T.s.fact 39)
theorem g_Guard : mg "Guard" = some (.ref (He.ga K "Guard")) := let ⟨_, X, G⟩ := T.h; He.glo_ok X G (T.s.fact 40)
theorem g_Search : mg "Search" = some (.ref (He.ga K "Search")) := let ⟨_, X, G⟩ := T.h; He.glo_ok X G (T.s.fact 41)
theorem g_Road : mg "Road" = some (.ref (He.ga K "Road")) := let ⟨_, X, G⟩ := T.h; He.glo_ok X G (T.s.fact 42)
theorem g_Talk : mg "Talk" = some (.ref (He.ga K "Talk")) := let ⟨_, X, G⟩ := T.h; He.glo_ok X G (T.s.fact 43)
theorem g_Tape : mg "Tape" = some (.ref (He.ga K "Tape")) := let ⟨_, X, G⟩ := T.h; He.glo_ok X G (T.s.fact 44)
theorem g_TooMany : mg "TooMany" = some (.ref (He.ga K "TooMany")) := let ⟨_, X, G⟩ := T.h; He.glo_ok X G (T.s.fact 45)
theorem f_isinstance : mg "isinstance" = none := let ⟨_, X, G⟩ := T.h; He.free_ok X G (T.s.fact 46)
theorem f_int : mg "int" = none := let ⟨_, X, G⟩ := T.h; He.free_ok X G (T.s.fact 47)
theorem f_bool : mg "bool" = none := let ⟨_, X, G⟩ := T.h; He.free_ok X G (T.s.fact 48)
theorem f_tuple : mg "tuple" = none := let ⟨_, X, G⟩ := T.h; He.free_ok X G (T.s.fact 49)
theorem f_len : mg "len" = none := let ⟨_, X, G⟩ := T.h; He.free_ok X G (T.s.fact 50)
theorem f_range : mg "range" = none := let ⟨_, X, G⟩ := T.h; He.free_ok X G (T.s.fact 51)
theorem f_sum : mg "sum" = none := let ⟨_, X, G⟩ := T.h; He.free_ok X G (T.s.fact 52)
theorem f_all : mg "all" = none := let ⟨_, X, G⟩ := T.h; He.free_ok X G (T.s.fact 53)
theorem f_enumerate : mg "enumerate" = none := let ⟨_, X, G⟩ := T.h; He.free_ok X G (T.s.fact 54)
theorem f_zip : mg "zip" = none := let ⟨_, X, G⟩ := T.h; He.free_ok X G (T.s.fact 55)
theorem f_max : mg "max" = none := let ⟨_, X, G⟩ := T.h; He.free_ok X G (T.s.fact 56)
theorem f_min : mg "min" = none := let ⟨_, X, G⟩ := T.h; He.free_ok X G (T.s.fact 57)
theorem f_list : mg "list" = none := let ⟨_, X, G⟩ := T.h; He.free_ok X G (T.s.fact 58)
theorem f_repr : mg "repr" = none := let ⟨_, X, G⟩ := T.h; He.free_ok X G (T.s.fact 59)
theorem f_sorted : mg "sorted" = none := let ⟨_, X, G⟩ := T.h; He.free_ok X G (T.s.fact 60)
theorem f_ValueError : mg "ValueError" = none := let ⟨_, X, G⟩ := T.h; He.free_ok X G (T.s.fact 61)
theorem f_Exception : mg "Exception" = none := let ⟨_, X, G⟩ := T.h; He.free_ok X G (T.s.fact 62)
theorem i_BEGIN : ∃ t, mg "BEGIN" = some (.int (4) t) := let ⟨_, X, G⟩ := T.h; He.int_ok X G (T.s.fact 63)
theorem i_AGAIN : ∃ t, mg "AGAIN" = some (.int (8) t) := let ⟨_, X, G⟩ := T.h; He.int_ok X G (T.s.fact 64)
theorem i_MOST : ∃ t, mg "MOST" = some (.int (30) t) := let ⟨_, X, G⟩ := T.h; He.int_ok X G (T.s.fact 65)
theorem i_LIMIT : ∃ t, mg "LIMIT" = some (.int (2000) t) := let ⟨_, X, G⟩ := T.h; He.int_ok X G (T.s.fact 66)
theorem i_NONE : ∃ t, mg "NONE" = some (.int (-1) t) := let ⟨_, X, G⟩ := T.h; He.int_ok X G (T.s.fact 67)
theorem i_AHEAD : ∃ t, mg "AHEAD" = some (.int (0) t) := let ⟨_, X, G⟩ := T.h; He.int_ok X G (T.s.fact 68)
theorem i_PLAYS : ∃ t, mg "PLAYS" = some (.int (1) t) := let ⟨_, X, G⟩ := T.h; He.int_ok X G (T.s.fact 69)
theorem i_STALLS : ∃ t, mg "STALLS" = some (.int (2) t) := let ⟨_, X, G⟩ := T.h; He.int_ok X G (T.s.fact 70)
theorem c_Speed : Cls K (cSpeed K) := He.cls_ok (T.s.fact 71)
theorem k_Speed : Mk K (cSpeed K) (He.ma K (cSpeed K) "__init__") := He.mkr_ok (T.s.fact 72)
theorem n_Speed_bits : NoAttr K (cSpeed K) "bits" := He.noat_ok (T.s.fact 73)
theorem n_Speed_beats : NoAttr K (cSpeed K) "beats" := He.noat_ok (T.s.fact 74)
theorem c_Walk : Cls K (cWalk K) := He.cls_ok (T.s.fact 75)
theorem k_Walk : Mk K (cWalk K) (He.ma K (cWalk K) "__init__") := He.mkr_ok (T.s.fact 76)
theorem n_Walk_talk_walked : NoAttr K (cWalk K) "talk_walked" := He.noat_ok (T.s.fact 77)
theorem n_Walk_chooser_asked : NoAttr K (cWalk K) "chooser_asked" := He.noat_ok (T.s.fact 78)
theorem n_Walk_limits : NoAttr K (cWalk K) "limits" := He.noat_ok (T.s.fact 79)
theorem n_Walk_waiting : NoAttr K (cWalk K) "waiting" := He.noat_ok (T.s.fact 80)
theorem n_Walk_opening : NoAttr K (cWalk K) "opening" := He.noat_ok (T.s.fact 81)
theorem n_Walk_stand_here : NoAttr K (cWalk K) "stand_here" := He.noat_ok (T.s.fact 82)
theorem n_Walk_beat_here : NoAttr K (cWalk K) "beat_here" := He.noat_ok (T.s.fact 83)
theorem n_Walk_rate_last : NoAttr K (cWalk K) "rate_last" := He.noat_ok (T.s.fact 84)
theorem n_Walk_speed_last : NoAttr K (cWalk K) "speed_last" := He.noat_ok (T.s.fact 85)
theorem n_Walk_rates : NoAttr K (cWalk K) "rates" := He.noat_ok (T.s.fact 86)
theorem n_Walk_begun : NoAttr K (cWalk K) "begun" := He.noat_ok (T.s.fact 87)
theorem n_Walk_whole : NoAttr K (cWalk K) "whole" := He.noat_ok (T.s.fact 88)
theorem n_Walk_plays : NoAttr K (cWalk K) "plays" := He.noat_ok (T.s.fact 89)
theorem n_Walk_stalls : NoAttr K (cWalk K) "stalls" := He.noat_ok (T.s.fact 90)
theorem n_Walk_kept : NoAttr K (cWalk K) "kept" := He.noat_ok (T.s.fact 91)
theorem c_Run : Cls K (cRun K) := He.cls_ok (T.s.fact 92)
theorem k_Run : Mk K (cRun K) (He.ma K (cRun K) "__init__") := He.mkr_ok (T.s.fact 93)
theorem n_Run_rates : NoAttr K (cRun K) "rates" := He.noat_ok (T.s.fact 94)
theorem n_Run_begun : NoAttr K (cRun K) "begun" := He.noat_ok (T.s.fact 95)
theorem n_Run_whole : NoAttr K (cRun K) "whole" := He.noat_ok (T.s.fact 96)
theorem n_Run_plays : NoAttr K (cRun K) "plays" := He.noat_ok (T.s.fact 97)
theorem n_Run_stalls : NoAttr K (cRun K) "stalls" := He.noat_ok (T.s.fact 98)
theorem n_Run_ended : NoAttr K (cRun K) "ended" := He.noat_ok (T.s.fact 99)
theorem n_Run_kept : NoAttr K (cRun K) "kept" := He.noat_ok (T.s.fact 100)
theorem c_Guard : Cls K (cGuard K) := He.cls_ok (T.s.fact 101)
theorem k_Guard : Mk K (cGuard K) (He.ma K (cGuard K) "__init__") := He.mkr_ok (T.s.fact 102)
theorem n_Guard_talk_told : NoAttr K (cGuard K) "talk_told" := He.noat_ok (T.s.fact 103)
theorem n_Guard_chooser_told : NoAttr K (cGuard K) "chooser_told" := He.noat_ok (T.s.fact 104)
theorem n_Guard_limits : NoAttr K (cGuard K) "limits" := He.noat_ok (T.s.fact 105)
theorem n_Guard_waiting : NoAttr K (cGuard K) "waiting" := He.noat_ok (T.s.fact 106)
theorem n_Guard_slow : NoAttr K (cGuard K) "slow" := He.noat_ok (T.s.fact 107)
theorem n_Guard_fast : NoAttr K (cGuard K) "fast" := He.noat_ok (T.s.fact 108)
theorem n_Guard_many_slow : NoAttr K (cGuard K) "many_slow" := He.noat_ok (T.s.fact 109)
theorem n_Guard_wide : NoAttr K (cGuard K) "wide" := He.noat_ok (T.s.fact 110)
theorem c_Search : Cls K (cSearch K) := He.cls_ok (T.s.fact 111)
theorem k_Search : Mk K (cSearch K) (He.ma K (cSearch K) "__init__") := He.mkr_ok (T.s.fact 112)
theorem n_Search_guard_asked : NoAttr K (cSearch K) "guard_asked" := He.noat_ok (T.s.fact 113)
theorem n_Search_most_watches : NoAttr K (cSearch K) "most_watches" := He.noat_ok (T.s.fact 114)
theorem n_Search_order : NoAttr K (cSearch K) "order" := He.noat_ok (T.s.fact 115)
theorem n_Search_ways : NoAttr K (cSearch K) "ways" := He.noat_ok (T.s.fact 116)
theorem c_Road : Cls K (cRoad K) := He.cls_ok (T.s.fact 117)
theorem k_Road : Mk K (cRoad K) (He.ma K (cRoad K) "__init__") := He.mkr_ok (T.s.fact 118)
theorem n_Road_pieces : NoAttr K (cRoad K) "pieces" := He.noat_ok (T.s.fact 119)
theorem c_Talk : Cls K (cTalk K) := He.cls_ok (T.s.fact 120)
theorem k_Talk : Mk K (cTalk K) (He.ma K (cTalk K) "__init__") := He.mkr_ok (T.s.fact 121)
theorem n_Talk_lengths : NoAttr K (cTalk K) "lengths" := He.noat_ok (T.s.fact 122)
theorem n_Talk_sizes : NoAttr K (cTalk K) "sizes" := He.noat_ok (T.s.fact 123)
theorem c_Tape : Cls K (cTape K) := He.cls_ok (T.s.fact 124)
theorem k_Tape : Mk K (cTape K) (He.ma K (cTape K) "__init__") := He.mkr_ok (T.s.fact 125)
theorem n_Tape_talk_told : NoAttr K (cTape K) "talk_told" := He.noat_ok (T.s.fact 126)
theorem n_Tape_chooser_told : NoAttr K (cTape K) "chooser_told" := He.noat_ok (T.s.fact 127)
theorem n_Tape_options_told : NoAttr K (cTape K) "options_told" := He.noat_ok (T.s.fact 128)
theorem n_Tape_paces : NoAttr K (cTape K) "paces" := He.noat_ok (T.s.fact 129)
theorem m_Speed_floor : Meth K (cSpeed K) "floor" (He.ma K (cSpeed K) "floor") := He.meth_ok (T.s.fact 130)
theorem m_Walk_is_at_end : Meth K (cWalk K) "is_at_end" (He.ma K (cWalk K) "is_at_end") := He.meth_ok (T.s.fact 131)
theorem m_Walk_asks_here : Meth K (cWalk K) "asks_here" (He.ma K (cWalk K) "asks_here") := He.meth_ok (T.s.fact 132)
theorem m_Walk_choose_here : Meth K (cWalk K) "choose_here" (He.ma K (cWalk K) "choose_here") := He.meth_ok (T.s.fact 133)
theorem m_Walk_step_on : Meth K (cWalk K) "step_on" (He.ma K (cWalk K) "step_on") := He.meth_ok (T.s.fact 134)
theorem m_Run_all_told : Meth K (cRun K) "all_told" (He.ma K (cRun K) "all_told") := He.meth_ok (T.s.fact 135)
theorem m_Run_eq : Meth K (cRun K) "__eq__" (He.ma K (cRun K) "__eq__") := He.meth_ok (T.s.fact 136)
theorem m_Guard_choice_at : Meth K (cGuard K) "choice_at" (He.ma K (cGuard K) "choice_at") := He.meth_ok (T.s.fact 137)
theorem m_Guard_first_watch : Meth K (cGuard K) "first_watch" (He.ma K (cGuard K) "first_watch") := He.meth_ok (T.s.fact 138)
theorem m_Guard_speeds_let : Meth K (cGuard K) "speeds_let" (He.ma K (cGuard K) "speeds_let") := He.meth_ok (T.s.fact 139)
theorem m_Guard_led : Meth K (cGuard K) "led" (He.ma K (cGuard K) "led") := He.meth_ok (T.s.fact 140)
theorem m_Guard_is_stand_on : Meth K (cGuard K) "is_stand_on" (He.ma K (cGuard K) "is_stand_on") := He.meth_ok (T.s.fact 141)
theorem m_Guard_is_last : Meth K (cGuard K) "is_last" (He.ma K (cGuard K) "is_last") := He.meth_ok (T.s.fact 142)
theorem m_Guard_is_past : Meth K (cGuard K) "is_past" (He.ma K (cGuard K) "is_past") := He.meth_ok (T.s.fact 143)
theorem m_Guard_is_watch : Meth K (cGuard K) "is_watch" (He.ma K (cGuard K) "is_watch") := He.meth_ok (T.s.fact 144)
theorem m_Search_come : Meth K (cSearch K) "come" (He.ma K (cSearch K) "come") := He.meth_ok (T.s.fact 145)
theorem m_Search_road_to : Meth K (cSearch K) "road_to" (He.ma K (cSearch K) "road_to") := He.meth_ok (T.s.fact 146)
theorem m_Search_told : Meth K (cSearch K) "told" (He.ma K (cSearch K) "told") := He.meth_ok (T.s.fact 147)
theorem m_Road_speed_at : Meth K (cRoad K) "speed_at" (He.ma K (cRoad K) "speed_at") := He.meth_ok (T.s.fact 148)
theorem m_Talk_len : Meth K (cTalk K) "__len__" (He.ma K (cTalk K) "__len__") := He.meth_ok (T.s.fact 149)
theorem m_Talk_many_rates : Meth K (cTalk K) "many_rates" (He.ma K (cTalk K) "many_rates") := He.meth_ok (T.s.fact 150)
theorem m_Tape_tell : Meth K (cTape K) "tell" (He.ma K (cTape K) "tell") := He.meth_ok (T.s.fact 151)
theorem m_Tape_walked : Meth K (cTape K) "walked" (He.ma K (cTape K) "walked") := He.meth_ok (T.s.fact 152)
theorem m_Tape_stand_behind : Meth K (cTape K) "stand_behind" (He.ma K (cTape K) "stand_behind") := He.meth_ok (T.s.fact 153)
theorem m_Tape_chosen_till : Meth K (cTape K) "chosen_till" (He.ma K (cTape K) "chosen_till") := He.meth_ok (T.s.fact 154)
theorem g_FIRST : mg "FIRST" = some (.ref (He.ga K "FIRST")) := let ⟨_, X, G⟩ := T.h; He.glo_ok X G (T.s.fact 155)
theorem d_is_rate : ∃ fd, FunD K d_is_rate.name d_is_rate.qual d_is_rate.params d_is_rate.body d_is_rate.scope (d_is_rate.dvs K) (d_is_rate.kws K) (He.fAd K d_is_rate.at_) fd := T.s.def_ 0
theorem d_rate_by : ∃ fd, FunD K d_rate_by.name d_rate_by.qual d_rate_by.params d_rate_by.body d_rate_by.scope (d_rate_by.dvs K) (d_rate_by.kws K) (He.fAd K d_rate_by.at_) fd := T.s.def_ 1
theorem d_seen_at : ∃ fd, FunD K d_seen_at.name d_seen_at.qual d_seen_at.params d_seen_at.body d_seen_at.scope (d_seen_at.dvs K) (d_seen_at.kws K) (He.fAd K d_seen_at.at_) fd := T.s.def_ 2
theorem d_look_room : ∃ fd, FunD K d_look_room.name d_look_room.qual d_look_room.params d_look_room.body d_look_room.scope (d_look_room.dvs K) (d_look_room.kws K) (He.fAd K d_look_room.at_) fd := T.s.def_ 3
theorem d_first_stand : ∃ fd, FunD K d_first_stand.name d_first_stand.qual d_first_stand.params d_first_stand.body d_first_stand.scope (d_first_stand.dvs K) (d_first_stand.kws K) (He.fAd K d_first_stand.at_) fd := T.s.def_ 4
theorem d_is_over : ∃ fd, FunD K d_is_over.name d_is_over.qual d_is_over.params d_is_over.body d_is_over.scope (d_is_over.dvs K) (d_is_over.kws K) (He.fAd K d_is_over.at_) fd := T.s.def_ 5
theorem d_has_room : ∃ fd, FunD K d_has_room.name d_has_room.qual d_has_room.params d_has_room.body d_has_room.scope (d_has_room.dvs K) (d_has_room.kws K) (He.fAd K d_has_room.at_) fd := T.s.def_ 6
theorem d_asks : ∃ fd, FunD K d_asks.name d_asks.qual d_asks.params d_asks.body d_asks.scope (d_asks.dvs K) (d_asks.kws K) (He.fAd K d_asks.at_) fd := T.s.def_ 7
theorem d_chosen : ∃ fd, FunD K d_chosen.name d_chosen.qual d_chosen.params d_chosen.body d_chosen.scope (d_chosen.dvs K) (d_chosen.kws K) (He.fAd K d_chosen.at_) fd := T.s.def_ 8
theorem d_begins : ∃ fd, FunD K d_begins.name d_begins.qual d_begins.params d_begins.body d_begins.scope (d_begins.dvs K) (d_begins.kws K) (He.fAd K d_begins.at_) fd := T.s.def_ 9
theorem d_played_on : ∃ fd, FunD K d_played_on.name d_played_on.qual d_played_on.params d_played_on.body d_played_on.scope (d_played_on.dvs K) (d_played_on.kws K) (He.fAd K d_played_on.at_) fd := T.s.def_ 10
theorem d_beat_on : ∃ fd, FunD K d_beat_on.name d_beat_on.qual d_beat_on.params d_beat_on.body d_beat_on.scope (d_beat_on.dvs K) (d_beat_on.kws K) (He.fAd K d_beat_on.at_) fd := T.s.def_ 11
theorem d_is_coming : ∃ fd, FunD K d_is_coming.name d_is_coming.qual d_is_coming.params d_is_coming.body d_is_coming.scope (d_is_coming.dvs K) (d_is_coming.kws K) (He.fAd K d_is_coming.at_) fd := T.s.def_ 12
theorem d_is_stand : ∃ fd, FunD K d_is_stand.name d_is_stand.qual d_is_stand.params d_is_stand.body d_is_stand.scope (d_is_stand.dvs K) (d_is_stand.kws K) (He.fAd K d_is_stand.at_) fd := T.s.def_ 13
theorem d_run_of : ∃ fd, FunD K d_run_of.name d_run_of.qual d_run_of.params d_run_of.body d_run_of.scope (d_run_of.dvs K) (d_run_of.kws K) (He.fAd K d_run_of.at_) fd := T.s.def_ 14
theorem d_is_of_kind : ∃ fd, FunD K d_is_of_kind.name d_is_of_kind.qual d_is_of_kind.params d_is_of_kind.body d_is_of_kind.scope (d_is_of_kind.dvs K) (d_is_of_kind.kws K) (He.fAd K d_is_of_kind.at_) fd := T.s.def_ 15
theorem d_leads_within : ∃ fd, FunD K d_leads_within.name d_leads_within.qual d_leads_within.params d_leads_within.body d_leads_within.scope (d_leads_within.dvs K) (d_leads_within.kws K) (He.fAd K d_leads_within.at_) fd := T.s.def_ 16
theorem d_never_holds : ∃ fd, FunD K d_never_holds.name d_never_holds.qual d_never_holds.params d_never_holds.body d_never_holds.scope (d_never_holds.dvs K) (d_never_holds.kws K) (He.fAd K d_never_holds.at_) fd := T.s.def_ 17
theorem d_stalls_holds : ∃ fd, FunD K d_stalls_holds.name d_stalls_holds.qual d_stalls_holds.params d_stalls_holds.body d_stalls_holds.scope (d_stalls_holds.dvs K) (d_stalls_holds.kws K) (He.fAd K d_stalls_holds.at_) fd := T.s.def_ 18
theorem d_never_stalls : ∃ fd, FunD K d_never_stalls.name d_never_stalls.qual d_never_stalls.params d_never_stalls.body d_never_stalls.scope (d_never_stalls.dvs K) (d_never_stalls.kws K) (He.fAd K d_never_stalls.at_) fd := T.s.def_ 19
theorem d_is_count : ∃ fd, FunD K d_is_count.name d_is_count.qual d_is_count.params d_is_count.body d_is_count.scope (d_is_count.dvs K) (d_is_count.kws K) (He.fAd K d_is_count.at_) fd := T.s.def_ 20
theorem d_law_deck : ∃ fd, FunD K d_law_deck.name d_law_deck.qual d_law_deck.params d_law_deck.body d_law_deck.scope (d_law_deck.dvs K) (d_law_deck.kws K) (He.fAd K d_law_deck.at_) fd := T.s.def_ 21
theorem d_law_draw : ∃ fd, FunD K d_law_draw.name d_law_draw.qual d_law_draw.params d_law_draw.body d_law_draw.scope (d_law_draw.dvs K) (d_law_draw.kws K) (He.fAd K d_law_draw.at_) fd := T.s.def_ 22
theorem d_law_rule : ∃ fd, FunD K d_law_rule.name d_law_rule.qual d_law_rule.params d_law_rule.body d_law_rule.scope (d_law_rule.dvs K) (d_law_rule.kws K) (He.fAd K d_law_rule.at_) fd := T.s.def_ 23
theorem d_law_telling : ∃ fd, FunD K d_law_telling.name d_law_telling.qual d_law_telling.params d_law_telling.body d_law_telling.scope (d_law_telling.dvs K) (d_law_telling.kws K) (He.fAd K d_law_telling.at_) fd := T.s.def_ 24
theorem d_law_odd : ∃ fd, FunD K d_law_odd.name d_law_odd.qual d_law_odd.params d_law_odd.body d_law_odd.scope (d_law_odd.dvs K) (d_law_odd.kws K) (He.fAd K d_law_odd.at_) fd := T.s.def_ 25
theorem d_law_talk : ∃ fd, FunD K d_law_talk.name d_law_talk.qual d_law_talk.params d_law_talk.body d_law_talk.scope (d_law_talk.dvs K) (d_law_talk.kws K) (He.fAd K d_law_talk.at_) fd := T.s.def_ 26
theorem d_law_options : ∃ fd, FunD K d_law_options.name d_law_options.qual d_law_options.params d_law_options.body d_law_options.scope (d_law_options.dvs K) (d_law_options.kws K) (He.fAd K d_law_options.at_) fd := T.s.def_ 27
theorem d_law_fields : ∃ fd, FunD K d_law_fields.name d_law_fields.qual d_law_fields.params d_law_fields.body d_law_fields.scope (d_law_fields.dvs K) (d_law_fields.kws K) (He.fAd K d_law_fields.at_) fd := T.s.def_ 28
theorem d_law_run : ∃ fd, FunD K d_law_run.name d_law_run.qual d_law_run.params d_law_run.body d_law_run.scope (d_law_run.dvs K) (d_law_run.kws K) (He.fAd K d_law_run.at_) fd := T.s.def_ 29
theorem d_law_runs_right : ∃ fd, FunD K d_law_runs_right.name d_law_runs_right.qual d_law_runs_right.params d_law_runs_right.body d_law_runs_right.scope (d_law_runs_right.dvs K) (d_law_runs_right.kws K) (He.fAd K d_law_runs_right.at_) fd := T.s.def_ 30
theorem d_law_never : ∃ fd, FunD K d_law_never.name d_law_never.qual d_law_never.params d_law_never.body d_law_never.scope (d_law_never.dvs K) (d_law_never.kws K) (He.fAd K d_law_never.at_) fd := T.s.def_ 31
theorem d_law_nevers_right : ∃ fd, FunD K d_law_nevers_right.name d_law_nevers_right.qual d_law_nevers_right.params d_law_nevers_right.body d_law_nevers_right.scope (d_law_nevers_right.dvs K) (d_law_nevers_right.kws K) (He.fAd K d_law_nevers_right.at_) fd := T.s.def_ 32
theorem d_law : ∃ fd, FunD K d_law.name d_law.qual d_law.params d_law.body d_law.scope (d_law.dvs K) (d_law.kws K) (He.fAd K d_law.at_) fd := T.s.def_ 33
theorem d_is_whole_stands : ∃ fd, FunD K d_is_whole_stands.name d_is_whole_stands.qual d_is_whole_stands.params d_is_whole_stands.body d_is_whole_stands.scope (d_is_whole_stands.dvs K) (d_is_whole_stands.kws K) (He.fAd K d_is_whole_stands.at_) fd := T.s.def_ 34
theorem d_is_whole_kinds : ∃ fd, FunD K d_is_whole_kinds.name d_is_whole_kinds.qual d_is_whole_kinds.params d_is_whole_kinds.body d_is_whole_kinds.scope (d_is_whole_kinds.dvs K) (d_is_whole_kinds.kws K) (He.fAd K d_is_whole_kinds.at_) fd := T.s.def_ 35
theorem d_is_whole_watches : ∃ fd, FunD K d_is_whole_watches.name d_is_whole_watches.qual d_is_whole_watches.params d_is_whole_watches.body d_is_whole_watches.scope (d_is_whole_watches.dvs K) (d_is_whole_watches.kws K) (He.fAd K d_is_whole_watches.at_) fd := T.s.def_ 36
theorem d_TooMany_init : ∃ fd, FunD K d_TooMany_init.name d_TooMany_init.qual d_TooMany_init.params d_TooMany_init.body d_TooMany_init.scope (d_TooMany_init.dvs K) (d_TooMany_init.kws K) (He.fAd K d_TooMany_init.at_) fd := T.s.def_ 37
theorem d_Speed_init : ∃ fd, FunD K d_Speed_init.name d_Speed_init.qual d_Speed_init.params d_Speed_init.body d_Speed_init.scope (d_Speed_init.dvs K) (d_Speed_init.kws K) (He.fAd K d_Speed_init.at_) fd := T.s.def_ 38
theorem d_Speed_floor : ∃ fd, FunD K d_Speed_floor.name d_Speed_floor.qual d_Speed_floor.params d_Speed_floor.body d_Speed_floor.scope (d_Speed_floor.dvs K) (d_Speed_floor.kws K) (He.fAd K d_Speed_floor.at_) fd := T.s.def_ 39
theorem d_Walk_init : ∃ fd, FunD K d_Walk_init.name d_Walk_init.qual d_Walk_init.params d_Walk_init.body d_Walk_init.scope (d_Walk_init.dvs K) (d_Walk_init.kws K) (He.fAd K d_Walk_init.at_) fd := T.s.def_ 40
theorem d_Walk_is_at_end : ∃ fd, FunD K d_Walk_is_at_end.name d_Walk_is_at_end.qual d_Walk_is_at_end.params d_Walk_is_at_end.body d_Walk_is_at_end.scope (d_Walk_is_at_end.dvs K) (d_Walk_is_at_end.kws K) (He.fAd K d_Walk_is_at_end.at_) fd := T.s.def_ 41
theorem d_Walk_asks_here : ∃ fd, FunD K d_Walk_asks_here.name d_Walk_asks_here.qual d_Walk_asks_here.params d_Walk_asks_here.body d_Walk_asks_here.scope (d_Walk_asks_here.dvs K) (d_Walk_asks_here.kws K) (He.fAd K d_Walk_asks_here.at_) fd := T.s.def_ 42
theorem d_Walk_choose_here : ∃ fd, FunD K d_Walk_choose_here.name d_Walk_choose_here.qual d_Walk_choose_here.params d_Walk_choose_here.body d_Walk_choose_here.scope (d_Walk_choose_here.dvs K) (d_Walk_choose_here.kws K) (He.fAd K d_Walk_choose_here.at_) fd := T.s.def_ 43
theorem d_Walk_step_on : ∃ fd, FunD K d_Walk_step_on.name d_Walk_step_on.qual d_Walk_step_on.params d_Walk_step_on.body d_Walk_step_on.scope (d_Walk_step_on.dvs K) (d_Walk_step_on.kws K) (He.fAd K d_Walk_step_on.at_) fd := T.s.def_ 44
theorem d_Run_init : ∃ fd, FunD K d_Run_init.name d_Run_init.qual d_Run_init.params d_Run_init.body d_Run_init.scope (d_Run_init.dvs K) (d_Run_init.kws K) (He.fAd K d_Run_init.at_) fd := T.s.def_ 45
theorem d_Run_all_told : ∃ fd, FunD K d_Run_all_told.name d_Run_all_told.qual d_Run_all_told.params d_Run_all_told.body d_Run_all_told.scope (d_Run_all_told.dvs K) (d_Run_all_told.kws K) (He.fAd K d_Run_all_told.at_) fd := T.s.def_ 46
theorem d_Run_eq : ∃ fd, FunD K d_Run_eq.name d_Run_eq.qual d_Run_eq.params d_Run_eq.body d_Run_eq.scope (d_Run_eq.dvs K) (d_Run_eq.kws K) (He.fAd K d_Run_eq.at_) fd := T.s.def_ 47
theorem d_Guard_init : ∃ fd, FunD K d_Guard_init.name d_Guard_init.qual d_Guard_init.params d_Guard_init.body d_Guard_init.scope (d_Guard_init.dvs K) (d_Guard_init.kws K) (He.fAd K d_Guard_init.at_) fd := T.s.def_ 48
theorem d_Guard_choice_at : ∃ fd, FunD K d_Guard_choice_at.name d_Guard_choice_at.qual d_Guard_choice_at.params d_Guard_choice_at.body d_Guard_choice_at.scope (d_Guard_choice_at.dvs K) (d_Guard_choice_at.kws K) (He.fAd K d_Guard_choice_at.at_) fd := T.s.def_ 49
theorem d_Guard_first_watch : ∃ fd, FunD K d_Guard_first_watch.name d_Guard_first_watch.qual d_Guard_first_watch.params d_Guard_first_watch.body d_Guard_first_watch.scope (d_Guard_first_watch.dvs K) (d_Guard_first_watch.kws K) (He.fAd K d_Guard_first_watch.at_) fd := T.s.def_ 50
theorem d_Guard_speeds_let : ∃ fd, FunD K d_Guard_speeds_let.name d_Guard_speeds_let.qual d_Guard_speeds_let.params d_Guard_speeds_let.body d_Guard_speeds_let.scope (d_Guard_speeds_let.dvs K) (d_Guard_speeds_let.kws K) (He.fAd K d_Guard_speeds_let.at_) fd := T.s.def_ 51
theorem d_Guard_led : ∃ fd, FunD K d_Guard_led.name d_Guard_led.qual d_Guard_led.params d_Guard_led.body d_Guard_led.scope (d_Guard_led.dvs K) (d_Guard_led.kws K) (He.fAd K d_Guard_led.at_) fd := T.s.def_ 52
theorem d_Guard_is_stand_on : ∃ fd, FunD K d_Guard_is_stand_on.name d_Guard_is_stand_on.qual d_Guard_is_stand_on.params d_Guard_is_stand_on.body d_Guard_is_stand_on.scope (d_Guard_is_stand_on.dvs K) (d_Guard_is_stand_on.kws K) (He.fAd K d_Guard_is_stand_on.at_) fd := T.s.def_ 53
theorem d_Guard_is_last : ∃ fd, FunD K d_Guard_is_last.name d_Guard_is_last.qual d_Guard_is_last.params d_Guard_is_last.body d_Guard_is_last.scope (d_Guard_is_last.dvs K) (d_Guard_is_last.kws K) (He.fAd K d_Guard_is_last.at_) fd := T.s.def_ 54
theorem d_Guard_is_past : ∃ fd, FunD K d_Guard_is_past.name d_Guard_is_past.qual d_Guard_is_past.params d_Guard_is_past.body d_Guard_is_past.scope (d_Guard_is_past.dvs K) (d_Guard_is_past.kws K) (He.fAd K d_Guard_is_past.at_) fd := T.s.def_ 55
theorem d_Guard_is_watch : ∃ fd, FunD K d_Guard_is_watch.name d_Guard_is_watch.qual d_Guard_is_watch.params d_Guard_is_watch.body d_Guard_is_watch.scope (d_Guard_is_watch.dvs K) (d_Guard_is_watch.kws K) (He.fAd K d_Guard_is_watch.at_) fd := T.s.def_ 56
theorem d_Search_init : ∃ fd, FunD K d_Search_init.name d_Search_init.qual d_Search_init.params d_Search_init.body d_Search_init.scope (d_Search_init.dvs K) (d_Search_init.kws K) (He.fAd K d_Search_init.at_) fd := T.s.def_ 57
theorem d_Search_come : ∃ fd, FunD K d_Search_come.name d_Search_come.qual d_Search_come.params d_Search_come.body d_Search_come.scope (d_Search_come.dvs K) (d_Search_come.kws K) (He.fAd K d_Search_come.at_) fd := T.s.def_ 58
theorem d_Search_road_to : ∃ fd, FunD K d_Search_road_to.name d_Search_road_to.qual d_Search_road_to.params d_Search_road_to.body d_Search_road_to.scope (d_Search_road_to.dvs K) (d_Search_road_to.kws K) (He.fAd K d_Search_road_to.at_) fd := T.s.def_ 59
theorem d_Search_told : ∃ fd, FunD K d_Search_told.name d_Search_told.qual d_Search_told.params d_Search_told.body d_Search_told.scope (d_Search_told.dvs K) (d_Search_told.kws K) (He.fAd K d_Search_told.at_) fd := T.s.def_ 60
theorem d_Road_init : ∃ fd, FunD K d_Road_init.name d_Road_init.qual d_Road_init.params d_Road_init.body d_Road_init.scope (d_Road_init.dvs K) (d_Road_init.kws K) (He.fAd K d_Road_init.at_) fd := T.s.def_ 61
theorem d_Road_speed_at : ∃ fd, FunD K d_Road_speed_at.name d_Road_speed_at.qual d_Road_speed_at.params d_Road_speed_at.body d_Road_speed_at.scope (d_Road_speed_at.dvs K) (d_Road_speed_at.kws K) (He.fAd K d_Road_speed_at.at_) fd := T.s.def_ 62
theorem d_Talk_init : ∃ fd, FunD K d_Talk_init.name d_Talk_init.qual d_Talk_init.params d_Talk_init.body d_Talk_init.scope (d_Talk_init.dvs K) (d_Talk_init.kws K) (He.fAd K d_Talk_init.at_) fd := T.s.def_ 63
theorem d_Talk_len : ∃ fd, FunD K d_Talk_len.name d_Talk_len.qual d_Talk_len.params d_Talk_len.body d_Talk_len.scope (d_Talk_len.dvs K) (d_Talk_len.kws K) (He.fAd K d_Talk_len.at_) fd := T.s.def_ 64
theorem d_Talk_many_rates : ∃ fd, FunD K d_Talk_many_rates.name d_Talk_many_rates.qual d_Talk_many_rates.params d_Talk_many_rates.body d_Talk_many_rates.scope (d_Talk_many_rates.dvs K) (d_Talk_many_rates.kws K) (He.fAd K d_Talk_many_rates.at_) fd := T.s.def_ 65
theorem d_Tape_init : ∃ fd, FunD K d_Tape_init.name d_Tape_init.qual d_Tape_init.params d_Tape_init.body d_Tape_init.scope (d_Tape_init.dvs K) (d_Tape_init.kws K) (He.fAd K d_Tape_init.at_) fd := T.s.def_ 66
theorem d_Tape_tell : ∃ fd, FunD K d_Tape_tell.name d_Tape_tell.qual d_Tape_tell.params d_Tape_tell.body d_Tape_tell.scope (d_Tape_tell.dvs K) (d_Tape_tell.kws K) (He.fAd K d_Tape_tell.at_) fd := T.s.def_ 67
theorem d_Tape_walked : ∃ fd, FunD K d_Tape_walked.name d_Tape_walked.qual d_Tape_walked.params d_Tape_walked.body d_Tape_walked.scope (d_Tape_walked.dvs K) (d_Tape_walked.kws K) (He.fAd K d_Tape_walked.at_) fd := T.s.def_ 68
theorem d_Tape_stand_behind : ∃ fd, FunD K d_Tape_stand_behind.name d_Tape_stand_behind.qual d_Tape_stand_behind.params d_Tape_stand_behind.body d_Tape_stand_behind.scope (d_Tape_stand_behind.dvs K) (d_Tape_stand_behind.kws K) (He.fAd K d_Tape_stand_behind.at_) fd := T.s.def_ 69
theorem d_Tape_chosen_till : ∃ fd, FunD K d_Tape_chosen_till.name d_Tape_chosen_till.qual d_Tape_chosen_till.params d_Tape_chosen_till.body d_Tape_chosen_till.scope (d_Tape_chosen_till.dvs K) (d_Tape_chosen_till.kws K) (He.fAd K d_Tape_chosen_till.at_) fd := T.s.def_ 70
end
end Txt
def names : List PySem.Str := (["_wall", "BEGIN", "AGAIN", "MOST", "LIMIT", "is_rate", "rate_by", "seen_at", "TooMany", "RateError", "NoRoom", "NoPace"] : List PySem.Str) ++ (["divisor_of", "Speed", "FIRST", "NONE", "AHEAD", "PLAYS", "STALLS", "look_room", "first_stand", "is_over", "has_room", "asks"] : List PySem.Str) ++ (["chosen", "begins", "played_on", "beat_on", "is_whole", "is_whole_stands", "is_coming", "is_stand", "Walk", "Run", "run_of", "is_whole_kinds"] : List PySem.Str) ++ (["is_of_kind", "is_whole_watches", "Guard", "leads_within", "never_holds", "stalls_holds", "Search", "never_stalls", "turns_of", "pieces_by", "Road", "Talk"] : List PySem.Str) ++ (["is_count", "Tape", "_law_deck", "_law_draw", "_law_rule", "_law_telling", "_law_odd", "_law_talk", "_law_options", "_law_fields", "_law_run", "_law_runs_right"] : List PySem.Str) ++ (["_law_never", "_law_nevers_right"] : List PySem.Str)
end RP
set_option maxHeartbeats 0
namespace RP
open PySem PySem.Spec PyProof.Rows L2
/-! ### the head's look: the module's names, the classes' own, the defs' code and keyword defaults, each forced once -/
section
open He PySem.W
def dictRefs (g : Addr → Option Obj) (a : Addr) : List Addr := match g a with
  | some ⟨_, _, .dict es _, _⟩ => es.toList.filterMap fun e => match e.val with
    | .ref b => some b
    | _ => none
  | _ => []
def nsOf (g : Addr → Option Obj) (a : Addr) : List Addr := match g a with
  | some ⟨_, _, .cls cd, _⟩ => [cd.ns]
  | _ => []
def codeRefs (g : Addr → Option Obj) (a : Addr) : List Addr := match g a with
  | some ⟨_, _, .func fd, _⟩ => refV fd.code ++ refV fd.kwdefaults
  | _ => []
def frL {β : Type} : List Addr → (List Addr → β) → β
  | [], k => k []
  | a :: r, k => HandSHeadRun.frNat a fun a' => frL r fun r' => k (a' :: r')
theorem frL_eq {β : Type} : ∀ (l : List Addr) (k : List Addr → β), frL l k = k l
  | [], _ => rfl
  | a :: r, k => by
    show HandSHeadRun.frNat a (fun a' => frL r fun r' => k (a' :: r')) = k (a :: r)
    rw [HandSHeadRun.frNat_eq]
    exact frL_eq r _
def frK {β : Type} (g : Addr → Option Obj) : List Addr → (Frag → β) → β
  | [], k => k []
  | a :: r, k => match g a with
    | some o => (match emptyTab o with
      | true => frK g r k
      | false => frK g r fun K => k ((a, o) :: K))
    | none => frK g r k
theorem frK_eq {β : Type} (g : Addr → Option Obj) : ∀ (l : List Addr) (k : Frag → β), frK g l k = k (frT g l)
  | [], _ => rfl
  | a :: r, k => by
    unfold frK
    cases q : g a with
    | none =>
      have e : frT g (a :: r) = frT g r := by
        unfold frT frG
        rw [List.filterMap_cons, q] <;> rfl
      rw [e]
      exact frK_eq g r k
    | some o =>
      cases z : emptyTab o with
      | true =>
        have e : frT g (a :: r) = frT g r := by
          unfold frT frG
          rw [List.filterMap_cons, q]
          show List.filter _ ((a, o) :: _) = _
          rw [List.filter_cons, z] <;> rfl
        rw [e]
        dsimp only
        rw [z]
        exact frK_eq g r k
      | false =>
        have e : frT g (a :: r) = (a, o) :: frT g r := by
          unfold frT frG
          rw [List.filterMap_cons, q]
          show List.filter _ ((a, o) :: _) = _
          rw [List.filter_cons, z] <;> rfl
        rw [e]
        dsimp only
        rw [z]
        exact frK_eq g r _
def asR (g : Addr → Option Obj) : List Addr :=
  let A1 := dictRefs g mainGlobals
  let A3 := (A1.flatMap (nsOf g)).flatMap (dictRefs g)
  mainGlobals :: (A1 ++ A1.flatMap (nsOf g) ++ A3 ++ (A1 ++ A3).flatMap (codeRefs g))
def obsK (fa : List Fa) (fn : List DefD) (tf : List Defn) (ex : Frag → Bool) (g : Addr → Option Obj) (K : Frag) : AlX := (obsT fa fn [] K, ex K && tabsB g tf K)
def obsR (fa : List Fa) (fn : List DefD) (tf : List Defn) (ex : Frag → Bool) (g : Addr → Option Obj) : AlX :=
  frL (dictRefs g mainGlobals) fun A1 => frL (A1.flatMap (nsOf g)) fun A2 => frL (A2.flatMap (dictRefs g)) fun A3 => frL ((A1 ++ A3).flatMap (codeRefs g)) fun A4 =>
    frK g (mainGlobals :: (A1 ++ A2 ++ A3 ++ A4)) fun K => obsK fa fn tf ex g K
theorem obsR_val {fa : List Fa} {fn : List DefD} {tf : List Defn} {ex : Frag → Bool} {g : Addr → Option Obj} : obsR fa fn tf ex g = obsK fa fn tf ex g (frT g (asR g)) := by
  unfold obsR
  rw [frL_eq, frL_eq, frL_eq, frL_eq, frK_eq] <;> rfl
theorem saysR_of {fa : List Fa} {fn : List DefD} {tf : List Defn} {ex : Frag → Bool} {w : World} {h : Heap} (e : obsR fa fn tf ex h.get? = valX fn [] w) : SaysX fa fn [] tf ex w h (frT h.get? (asR h.get?)) := by
  rw [obsR_val] at e
  generalize hK : frT h.get? (asR h.get?) = K at e ⊢
  have e1 : obsT fa fn [] K = valT fn [] w := congrArg (fun z : AlX => z.1) e
  have e2 : (ex K && tabsB h.get? tf K) = true := congrArg (fun z : AlX => z.2) e
  obtain ⟨h1, h2⟩ := ba e2
  have key : ∀ p ∈ tf, PySem.W.codeHdIn K (cT K p).1 (cT K p).2 = true ∧ ∃ o, h.get? (cT K p).2 = some o ∧ emptyTab o = true := fun p hp => by
    obtain ⟨h3, h4⟩ := ba (List.all_eq_true.mp h2 p hp)
    refine ⟨h3, ?_⟩
    cases q : h.get? (cT K p).2 with
    | none =>
      rw [q] at h4
      cases h4
    | some o =>
      rw [q] at h4
      exact ⟨o, rfl, h4⟩
  exact ⟨e1, h1, fun p hp => (key p hp).1, fun p hp => by
    obtain ⟨_, o, q, z⟩ := key p hp
    rw [← hK] at q ⊢
    exact frT_none q z, fun p hp => by
    obtain ⟨_, o, q, z⟩ := key p hp
    rw [q, emptyTab_eq z]⟩
def hookR (fa : List Fa) (fn : List DefD) (tf : List Defn) (ex : Frag → Bool) : Hook where
  α := AlX
  obs := fun s => obsR fa fn tf ex s.heap.get?
  val := fun w => valX fn [] w
  says := fun w h => ∃ K : Frag, K.In h ∧ SaysX fa fn [] tf ex w h K
  of := fun _ _ e => ⟨_, frT_in, saysR_of e⟩
  keeps := fun _ _ _ ⟨K, hK, c⟩ k => ⟨K, Frag.In.keeps hK k, ⟨c.t, c.more, c.hd, c.out, fun p hp => k _ _ (c.empty p hp)⟩⟩
theorem obsR_eq {fa : List Fa} {fn : List DefD} {tf : List Defn} {ex : Frag → Bool} {g : Addr → Option Obj} {s : Shared} (h : ∀ a, g a = s.heap.get? a) : obsR fa fn tf ex g = (hookR fa fn tf ex).obs s := by
  have e : g = s.heap.get? := funext h
  rw [e] <;> rfl
end
abbrev R : PySem.W.OpenRow := PySem.W.OpenLaw.row PySem.Challenge.rw_rateplan_k95_whole_rules_that_tell_plans
def tf : List He.Defn := [("_law_telling", none)]
abbrev hk : PySem.W.Hook := hookR fa fn tf exB
def ob (s : PySem.W.SharedT) : He.AlX := obsR fa fn tf exB (HandSHeadRun.getT s)
theorem ob_eq (s : PySem.W.SharedT) : ob s = hk.obs s.abs := obsR_eq (HandSHeadRun.getT_eq s)
abbrev qv : Program := PySem.W.view R.prog [78]
theorem run (w : World) : HandSHeadRun.RunEq R qv hk ob 8000 names w := by
  intro os
  kernel_rfl
end RP
set_option maxHeartbeats 4000000
namespace RP
open PySem PySem.Spec PyProof.Rows L2
/-! ### functions made by a def: their cells -/
theorem heap_rep (n a : Nat) {o : Obj} (h : ∀ c d s, o ≠ ⟨c, d, .freed, s⟩) : (⟨Array.replicate n o, {}⟩ : Heap).get? a = if a < n then some o else none := by
  unfold Heap.get?
  rw [Array.getElem?_replicate]
  by_cases q : a < n
  · rw [if_pos q]
    split
    · rename_i c d s e
      exact absurd (Option.some.inj e) (h c d s)
    · rfl
  · rw [if_neg q]
theorem fix_one {φ : Heap → Prop} (a : Addr) (o : Obj) (hf : ∀ c d s, o ≠ ⟨c, d, .freed, s⟩) (hd : o.cls ≠ .type "dict") (hφ : ∀ h : Heap, h.get? a = some o → φ h) : Fix (.ext φ) := by
  refine ⟨⟨Array.replicate (a + 1) o, {}⟩, hφ _ ?_, fun b u hu => ?_⟩
  · rw [heap_rep _ _ hf, if_pos (Nat.lt_succ_self a)]
  · rw [heap_rep _ _ hf] at hu
    split at hu
    · cases hu
      exact hd
    · cases hu
theorem fix_fn {f : Addr} {F : NdefX.NF} : Fix (NdefX.FnO f F) :=
  fix_one f ⟨.type "function", none, .func (F.fd .none .none .none), #[]⟩ (fun c d s z => nomatch z) (fun z => by
    have z : (Value.type "function") = .type "dict" := z
    injection z with z
    exact absurd z (by decide)) fun h e => ⟨none, #[], .none, .none, .none, e⟩
theorem fix_code {c : Addr} {q : Str} : Fix (LamX.CodeO c q) :=
  fix_one c ⟨.none, none, .fields #[.none, .str q 0], #[]⟩ (fun c d s z => nomatch z) (fun z => nomatch z) fun h e => ⟨_, _, 0, e, rfl, rfl⟩
/-- at c: a cell that holds x -/
def CellO (c : Addr) (x : V) : HO := .ext fun h => ∃ u, RelV x u ∧ h.IsCell c (some u)
theorem fix_cell {c a : Addr} : Fix (CellO c (.ref a)) :=
  fix_one c ⟨.type "cell", none, .cell (some (.ref a)), #[]⟩ (fun c d s z => nomatch z) (fun z => by
    have z : (Value.type "cell") = .type "dict" := z
    injection z with z
    exact absurd z (by decide)) fun h e => ⟨.ref a, rfl, _, e, rfl⟩
section
variable {P : Program} {w : World} {K : PySem.W.Frag} {mg : Str → Option Value} {base : Heap} {H H1 H2 : Hp} {h : Heap} {c : Addr} {x : V}
theorem cell_obj {u : Value} (ru : RelV x u) (hc : h.IsCell c (some u)) : ObjOk P w H h c (CellO c x) := by
  obtain ⟨o, ho, hd⟩ := id hc
  exact ⟨⟨u, ru, hc⟩, ⟨o, ho⟩, fun h1 h2 ⟨u, ru, o, ho, hd⟩ st => ⟨u, ru, o, st _ ho, hd⟩⟩
theorem cellO_own {y : Addr} : CellO c x ≠ .own y := fun z => by
  have z' : HO.ext _ = HO.own y := z
  cases z'
theorem cellO_tup {xs : List V} : CellO c x ≠ .tup xs := fun z => by
  have z' : HO.ext _ = HO.tup xs := z
  cases z'
theorem cellO_frz {o : Obj} {u : HO} : CellO c x ≠ .frz o u := fun z => by
  have z' : HO.ext _ = HO.frz o u := z
  cases z'
theorem cellO_tbl {ps : Array Value} : CellO c x ≠ .tbl ps := fun z => by
  have z' : HO.ext _ = HO.tbl ps := z
  cases z'
theorem ne_cell {b : Addr} {o : HO} (hc : H c = some (CellO c x)) (hb : H b = some o) (n : CellO c x ≠ o) : b ≠ c := fun z => by
  rw [z, hc] at hb
  exact n (Option.some.inj hb)
theorem hok_del (hok : HOk P w H h) (hc : H c = some (CellO c x)) : HOk P w (del H c) h := fun b o hb => by
  have nb : b ≠ c := fun z => by
    rw [z, del_same] at hb
    cases hb
  rw [del_ne nb] at hb
  exact (hok b o hb).stay (fun _ _ _ q => q) (fun d hd => by rw [del_ne (ne_cell hc hd cellO_own)]; exact hd) (fun d xs hd => by rw [del_ne (ne_cell hc hd cellO_tup)]; exact hd)
theorem hok_cell {u : Value} (hok : HOk P w H h) (hn : H c = none) (ru : RelV x u) (hc : h.IsCell c (some u)) : HOk P w (upd H c (CellO c x)) h := fun b o hb => by
  by_cases e : b = c
  · subst e
    rw [upd_same] at hb
    cases hb
    exact cell_obj ru hc
  · rw [upd_ne e] at hb
    exact (hok b o hb).stay (fun _ _ _ q => q) (fun d hd => by rw [upd_ne (ne_of_none hd hn)]; exact hd) (fun d xs hd => by rw [upd_ne (ne_of_none hd hn)]; exact hd)
mutual
theorem Du.dl (hc : H c = some (CellO c x)) : ∀ {v : V} {d : PyData}, Du K H v d → Du K (del H c) v d
  | _, _, .non => .non
  | _, _, .bl b => .bl b
  | _, _, .int i => .int i
  | _, _, .str y => .str y
  | _, _, .tup h t => .tup (by
    rcases h with (h | ⟨o, h⟩) | h
    · exact .inl (.inl (by rw [del_ne (ne_cell hc h cellO_tup)]; exact h))
    · exact .inl (.inr ⟨o, by rw [del_ne (ne_cell hc h cellO_frz)]; exact h⟩)
    · exact .inr h) (Dus.dl hc t)
theorem Dus.dl (hc : H c = some (CellO c x)) : ∀ {vs : List V} {ds : List PyData}, Dus K H vs ds → Dus K (del H c) vs ds
  | _, _, .nil => .nil
  | _, _, .cons h t => .cons (Du.dl hc h) (Dus.dl hc t)
end
/-- claims that no cell bears -/
def Ty.Dl (T : Ty) : Prop := ∀ {v : V} {H : Hp} {c : Addr} {x : V}, H c = some (CellO c x) → T.p v H → T.p v (del H c)
theorem tD_dl {d : PyData} : (tD K d).Dl := fun hc h => Du.dl hc h
inductive AllDl : List Ty → Prop
  | nil : AllDl []
  | cons {A : Ty} {Ps : List Ty} (h : A.Dl) (t : AllDl Ps) : AllDl (A :: Ps)
theorem pv_dl (hc : H c = some (CellO c x)) : ∀ {Ps : List Ty} {vs : List V}, AllDl Ps → Pv H Ps vs → Pv (del H c) Ps vs
  | _, _, .nil, .nil => .nil
  | _, _, .cons a t, .cons h r => .cons (a hc h) (pv_dl hc t r)
inductive FldDl : List (Str × Ty) → Prop
  | nil : FldDl []
  | cons {f : Str} {A : Ty} {fs : List (Str × Ty)} (h : A.Dl) (t : FldDl fs) : FldDl ((f, A) :: fs)
theorem flds_dl (hc : H c = some (CellO c x)) : ∀ {us : List (Str × V)} {fs : List (Str × Ty)}, FldDl fs → Flds H us fs → Flds (del H c) us fs
  | _, _, .nil, .nil => .nil
  | _, _, .cons a t, .cons h r => .cons (a hc h) (flds_dl hc t r)
theorem tO_dl {C : Addr} {fs : List (Str × Ty)} (a : FldDl fs) : (tO C fs).Dl := fun hc h => by
  obtain ⟨p, dx, us, e, h1, h2⟩ := h
  refine ⟨p, dx, us, e, ?_, flds_dl hc a h2⟩
  rw [del_ne fun z => ?_]
  · exact h1
  · rw [z, hc] at h1
    have z' : CellO _ _ = HO.ins C dx us := Option.some.inj h1
    have z2 : HO.ext _ = HO.ins C dx us := z'
    cases z2
/-- a function with one captured cell, as a value -/
theorem clb_cell {F : NdefX.NF} {f c a : Addr} {y : Str} {k : Nat} {sp0 : Sp} {spN : List (Option V) → Sp} {ps : List Str} {H : Hp} (hN : NdefX.NOk P w K mg base CX0 k f F ps [y] spN) (hcl : F.cl = [(y, c)]) (hf : H f = some (NdefX.FnO f F)) (hc : H F.c = some (LamX.CodeO F.c F.qual)) (hx : H c = some (CellO c (.ref a)))
    (hsp : ∀ vs H1 Q, Im H H1 → H1 c = some (CellO c (.ref a)) → sp0 vs H1 Q E0 → spN [some (.ref a)] vs (del H1 c) (fun v H2 => H2 c = none → Q v (upd H2 c (CellO c (.ref a)))) E0) : Clb P w K mg base k f sp0 H := by
  refine ⟨fun H1 h im X hok => ?_, fun A outer s H1 us vs Q im hr e0 r hsp0 => ?_⟩
  · obtain ⟨od, sl, doc, pm, ctv, ho⟩ := NdefX.fnO_at hok (im _ _ hf fix_fn)
    exact ⟨od, _, sl, ho⟩
  · have hf1 := im _ _ hf fix_fn
    have hc1 := im _ _ hc fix_code
    have hx1 := im _ _ hx fix_cell
    obtain ⟨u, ru, o, ho, hd⟩ := (e0.hok c _ hx1).1
    have nf : f ≠ c := fun z => by
      obtain ⟨od, sl, doc, pm, ctv, ho2⟩ := NdefX.fnO_at e0.hok hf1
      rw [z, ho] at ho2
      cases ho2
      cases hd
    have nc : F.c ≠ c := fun z => by
      obtain ⟨oc, vs', t, h1, h2, h3⟩ := (e0.hok _ _ hc1).1
      rw [z, ho] at h1
      cases h1
      rw [hd] at h2
      cases h2
    have nfr : c ∉ frs outer := fun z => by
      have := e0.frf c z
      rw [hx1] at this
      cases this
    have e1 : Env0 P w K mg base A outer s (del H1 c) := ⟨e0.frames, e0.mod, fun b o hb => ⟨(e0.bs b o hb).1, by
      by_cases q : b = c
      · rw [q]; exact del_same
      · rw [del_ne q]; exact (e0.bs b o hb).2⟩, e0.bsz, e0.funs, fun b hb => by
      by_cases q : b = c
      · rw [q]; exact del_same
      · rw [del_ne q]; exact e0.frf b hb, hok_del e0.hok hx1, e0.bare⟩
    have C : NdefX.CellsAt F.cl [y] [some (.ref a)] s.heap (del H1 c) := by
      rw [hcl]
      have key : ∀ {z : Str} {c' : Addr}, ([(y, c)] : List (Str × Addr)).lookup z = some c' → z = y ∧ c' = c := fun {z c'} e => by
        rw [List.lookup_cons] at e
        split at e
        · rename_i h
          exact ⟨by simpa using h, (Option.some.inj e).symm⟩
        · cases e
      refine ⟨rfl, fun z c' e => ?_, fun z z' c' e1 e2 => (key e1).1.trans (key e2).1.symm, fun i z e => ?_⟩
      · rw [(key e).2]
        exact ⟨del_same, _, o, ho, hd⟩
      · cases i with
        | zero =>
          have e : y = z := Option.some.inj e
          subst e
          refine ⟨c, by rw [List.lookup_cons, beq_self_eq_true], fun v ev => ?_⟩
          have ev : some (V.ref a) = some v := Option.some.inj ev
          cases ev
          exact ⟨u, ru, o, ho, hd⟩
        | succ i => cases e
    refine codeAny_mono (hN.run A outer s (del H1 c) us vs [some (.ref a)] _ E0 hr e1 (by rw [del_ne nf]; exact hf1) (by rw [del_ne nc]; exact hc1) C r (hsp vs H1 Q im hx1 hsp0)) fun r s' hq => ?_
    cases r with
    | error e => exact hq
    | ok fl =>
      cases fl with
      | next => exact hq
      | brk => exact hq
      | cont => exact hq
      | ret uu =>
        obtain ⟨v, H2, os, bare, un, hok, rv, q⟩ := hq
        have k1 := un.keep c o ho del_same nfr (by simp)
        have k2 := un.free c o ho del_same (by simp)
        have dn : ∀ {b : Addr}, H1 b = none → b ≠ c ∧ del H1 c b = none := fun {b} n => by
          have nb : b ≠ c := fun z => by rw [z, hx1] at n; cases n
          exact ⟨nb, by rw [del_ne nb]; exact n⟩
        refine ⟨v, upd H2 c (CellO c (.ref a)), os, bare, ⟨fun b ob e n hf hx => un.keep b ob e (dn n).2 hf hx, fun b ob e n hf hx => un.slot b ob e (dn n).2 hf hx, fun b ob e n hx => by rw [upd_ne (dn n).1]; exact un.free b ob e (dn n).2 hx, un.there, fun b xs e => ?_, fun b ob uo e => ?_, fun b ps e => ?_⟩, hok_cell hok k2 ru ⟨o, k1, hd⟩, rv, q k2⟩
        · have nb := ne_cell hx1 e cellO_tup
          rw [upd_ne nb]
          exact un.tups b xs (by rw [del_ne nb]; exact e)
        · have nb := ne_cell hx1 e cellO_frz
          rw [upd_ne nb]
          exact un.frzs b ob uo (by rw [del_ne nb]; exact e)
        · have nb := ne_cell hx1 e cellO_tbl
          rw [upd_ne nb]
          exact un.tbls b ps (by rw [del_ne nb]; exact e)
end
/-! ### a def run by hand: two statements, the last a return -/
section
variable {X : Cx} {st : Stmt} {e : Expr} {pos : Pos} {t : TS} {te : TE}
theorem run_def2 (h1 : PS X st t) (he : PE X e te) {pins : List (Addr × Obj)} {s : Shared} {σ : L2.St} {H : Hp} {N : L2.St → Hp → Prop} {Q : V → L2.St → Hp → Prop} (I : Inv X pins σ H s) (h : t { nx := N, rt := fun _ _ => False } σ H) (hk : ∀ σ' H', N σ' H' → te σ' H' (fun v H2 => Q v σ' H2)) :
    wpAny (model X.prog X.w) X.A (execs [st, .Return (some e) pos] X.env) (fun fl s' => ∃ u v σ' H', fl = .ret u ∧ Inv X pins σ' H' s' ∧ RelV v u ∧ Q v σ' H') X.xe s := by
  refine wpAny_execs_cons (thn (h1.run pins s σ H _ I h) fun f s1 q => ?_)
  cases f with
  | next =>
    obtain ⟨σ', H', I', q⟩ := q
    refine wpAny_execs_cons (wpAny_Return_some (thn (he.run pins s1 σ' H' _ I' (hk σ' H' q)) fun v s2 ⟨x, H2, I2, r2, q2⟩ => ⟨v, x, σ', H2, rfl, I2, r2, q2⟩))
  | ret v =>
    obtain ⟨_, _, _, _, _, q⟩ := q
    exact q.elim
  | brk =>
    obtain ⟨_, _, _, q⟩ := q
    exact q.elim
  | cont =>
    obtain ⟨_, _, _, q⟩ := q
    exact q.elim
end
end RP
set_option maxHeartbeats 4000000
namespace RP
open PySem PySem.Spec PyProof.Rows L2
section
variable {P : Program} {w : World} {K : PySem.W.Frag} {mg : Str → Option Value} {base : Heap} {Γ : Ctx} {ta tb tc td te : TE}
/-! ### talks -/
def tTalk (K : PySem.W.Frag) (t : Tk) : Ty := tO (cTalk K) [("lengths", tD K (dI t.len)), ("sizes", tD K (.tuple (t.siz.map dI)))]
theorem tTalk_fx {t : Tk} : (tTalk K t).Fx := tO_fx (by show (["lengths", "sizes"] : List Str) ∈ fixed; decide +kernel) fun q hq => by
  simp only [List.mem_cons, List.not_mem_nil, or_false] at hq
  rcases hq with rfl | rfl <;> exact tD_fx
theorem gv_Talk_lengths (T : Txt K mg) {t : Tk} (h : Gv Γ te (tTalk K t)) : Gv Γ (tFld K te "lengths") (tD K (dI t.len)) := gv_fld h T.c_Talk T.n_Talk_lengths (by rfl)
theorem gv_Talk_sizes (T : Txt K mg) {t : Tk} (h : Gv Γ te (tTalk K t)) : Gv Γ (tFld K te "sizes") (tD K (.tuple (t.siz.map dI))) := gv_fld h T.c_Talk T.n_Talk_sizes (by rfl)
theorem sc_Talk_many_rates : FnScope ["self", "first", "rest"] ["self"] (defScope s_Talk_many_rates) := ⟨rfl, rfl, rfl, by decide +kernel, rfl, by decide +kernel, by decide +kernel⟩
def spMany (K : PySem.W.Frag) : Sp := spP (fun t : Tk => t.siz ≠ [] ∧ t.siz.length ≤ 100) (fun t => [tTalk K t]) (fun t => tD K (.int t.W))
theorem c_Talk_many_rates (T : Txt K mg) : CalM P w K mg base (cTalk K) "many_rates" 1 (spMany K) := by
  obtain ⟨fd, F⟩ := T.d_Talk_many_rates
  refine ⟨_, fd, ["self"], ?_, T.m_Talk_many_rates, F.bindsN (fun _ _ _ _ _ _ us hl => match us, hl with | [_], _ => rfl)⟩
  refine pure_ok F sc_Talk_many_rates (fun _ => rfl) fun cdv A outer s H E t hr c => ⟨_, (pss_cons (ps_asg (pe_fld (pv 0) rfl) (pg_star (n := 2) (i := 1) rfl (pgs_cons (pg_name (i := 1) sc_Talk_many_rates.nd rfl (Or.inl rfl)) (pgs_star (pg_name (i := 2) sc_Talk_many_rates.nd rfl (Or.inl rfl)) pgs_nil)))) (pss_one (ps_ret (pe_callB (id := "len") (r := rLn K) call_len_seq (by rfl) T.f_len (by decide +kernel) (pa_cons (pv 1) pa_nil))))), fun M D r _ => ?_⟩
  try dsimp only [Cx.nox, cxOf, ent, List.map, List.length_cons, List.length_nil, List.replicate_succ, List.replicate_zero, List.cons_append, List.nil_append, List.set]
  obtain ⟨r0, rows, e⟩ : ∃ r0 rows, t.siz = r0 :: rows := by
    cases q : t.siz with
    | nil => exact absurd q c.1
    | cons a b => exact ⟨a, b, rfl⟩
  refine q_asg (gv_Talk_sizes T (gv_var rfl)) (by
    rw [e]
    exact gt_star0 (first := [dI r0]) (mids := rows.map dI) (gts_cons gt_name (gts_cons gt_name gts_nil)) rfl rfl (by have := c.2; rw [e] at this; simp at this ⊢; omega)) ?_
  try dsimp only [List.set]
  refine go_retD r (gv_cb1 (gv_var rfl) gc_len) ?_
  rw [List.length_map]
  unfold Tk.W
  rw [e]
  rfl
theorem sc_Talk_len : FnScope ["self"] ["self"] (defScope s_Talk_len) := ⟨rfl, rfl, rfl, by decide +kernel, rfl, by decide +kernel, by decide +kernel⟩
def spLen (K : PySem.W.Frag) : Sp := spP (fun t : Tk => 0 ≤ t.tot ∧ t.tot < 1000) (fun t => [tTalk K t]) (fun t => tD K (.int t.tot))
theorem c_Talk_len (T : Txt K mg) : ∃ f fd ps, FnOk P w K mg base CX0 1 f fd ps (spLen K) ∧ Meth K (cTalk K) "__len__" f ∧ Binds K fd ps [] := by
  obtain ⟨fd, F⟩ := T.d_Talk_len
  refine ⟨_, fd, ["self"], ?_, T.m_Talk_len, F.bindsN (fun _ _ _ _ _ _ us hl => match us, hl with | [_], _ => rfl)⟩
  refine pure_ok F sc_Talk_len (fun _ => rfl) fun cdv A outer s H E t hr c => ⟨_, (pss_one (ps_ret (pe_callB (id := "len") call_len_rng (by rfl) T.f_len (by decide +kernel) (pa_cons (pe_callTy (T := "range") cr_range1 (by rfl) T.f_range (by decide +kernel) (pa_cons (pe_callB (id := "sum") (r := rSumT K) (cr_sumT (by rfl)) (by rfl) T.f_sum (by decide +kernel) (pa_cons (pe_fld (pv 0) rfl) pa_nil)) pa_nil)) pa_nil)))), fun M D r _ => ?_⟩
  try dsimp only [Cx.nox, cxOf, ent, List.map, List.length_cons, List.length_nil, List.replicate_succ, List.replicate_zero, List.cons_append, List.nil_append, List.set]
  exact go_retD r (gv_cb1 (gv_cb1 (gv_cb1 (gv_Talk_lengths T (gv_var rfl)) gc_sumT) gc_range) (gc_lenR ⟨c.1, by have := c.2; show t.tot < 2 ^ 62; omega⟩)) rfl
/-- len(talk) -/
def rTl (K : PySem.W.Frag) : List V → Hp → VK → Prop := rLenO (cTalk K) (spLen K) E0
theorem call_lenT {X : Cx} {j : Nat} (T : Txt X.K X.mg) (hr : Room j X.A) (hj : 2 ≤ j) : CallR X (.builtin "len") (rTl X.K) := by
  obtain ⟨f, fd, ps, F, m, b⟩ := c_Talk_len (P := X.prog) (w := X.w) (base := X.base) T
  exact call_lenO F m (hr.mono hj) b pass0
theorem gc_lenT {t : Tk} (h : 0 ≤ t.tot ∧ t.tot < 1000) : Gc (rTl K) [tTalk K t] (tD K (.int t.tot)) := fun vs H Q hv q => by
  obtain ⟨v, rfl, hx⟩ := hv.one
  obtain ⟨a, dx, fs, e, h1, h2⟩ := id hx
  subst e
  exact ⟨a, dx, fs, rfl, h1, t, h, .cons hx .nil, fun v H' e hv => ⟨t.tot, Du.int_inv hv, ⟨h.1, by omega⟩, q _ H' e (.int _)⟩⟩
/-! ### stands -/
abbrev dSd (s : Sd) : PyData := .tuple [.int s.n, .int s.c, .int s.g, .int s.k, .int s.p, .int s.w]
theorem sc_look_room : FnScope ["talk", "most", "number", "length"] ["talk", "most"] (defScope s_look_room) := ⟨rfl, rfl, rfl, by decide +kernel, rfl, by decide +kernel, by decide +kernel⟩
def spLook (K : PySem.W.Frag) : Sp := spP (fun i : Tk × Int => i.1.len.length ≤ 100 ∧ ∀ l ∈ i.1.len, l ≤ i.2) (fun i => [tTalk K i.1, tD K (.int i.2)]) (fun _ => tD K .none)
theorem c_look_room (T : Txt K mg) : Cal P w K mg base "look_room" 1 [] (spLook K) := by
  obtain ⟨fd, F⟩ := T.d_look_room
  refine ⟨_, fd, ["talk", "most"], [], ?_, T.g_look_room, F.kp, F.bindsN (fun _ _ _ _ _ _ us hl => match us, hl with | [_, _], _ => rfl), .nil⟩
  refine pure_ok F sc_look_room (fun _ => rfl) fun cdv A outer s H E i hr c => ⟨_, (pss_one (ps_for PassesOwn.never rfl (pi_enumT (by rfl) T.f_enumerate (pa_cons (pe_fld (pv 0) rfl) pa_nil)) (pg_tup rfl (pgs_cons (pg_name (i := 2) sc_look_room.nd rfl (Or.inl rfl)) (pgs_cons (pg_name (i := 3) sc_look_room.nd rfl (Or.inl rfl)) pgs_nil))) (pss_one (ps_if (pt_cmpR op_gt (pv 3) (pv 1) (nomark _)) (pss_one ps_never) pss_nil)))), fun M D r nn => ?_⟩
  try dsimp only [Cx.nox, cxOf, ent, List.map, List.length_cons, List.length_nil, List.replicate_succ, List.replicate_zero, List.cons_append, List.nil_append, List.set]
  obtain ⟨t, m⟩ := i
  refine go_for (gi_enum (ds := t.len.map .int) (T := fun i => tD K (.tuple [.int (i : Nat), .int (t.L i)])) (ga_cons (gv_Talk_lengths T (gv_var rfl)) ga_nil) (fun i d hd => ?_)) (fun _ => ent ["talk", "most", "number", "length"] [tTalk K t, tD K (.int m)]) (fun σ H s => s) (fun i hi M' nx bk hM hn _ => ⟨_, gt_tup (gts_cons gt_name (gts_cons gt_name gts_nil)) rfl, ?_⟩) (fun σ H' m s => nn σ H' m .non)
  · rw [List.getElem?_map] at hd
    cases e : t.len[i]? with
    | none => rw [e] at hd; cases hd
    | some z =>
      rw [e] at hd
      cases hd
      show tD K (.tuple [.int (i : Nat), .int (t.L i)]) = _
      unfold Tk.L
      rw [List.getD_eq_getElem?_getD, e]
      rfl
  · rw [List.length_map] at hi
    refine go_if (b := decide (m < t.L i)) (gb_val (gv_b0 (gv_var rfl) (gv_var rfl))) (fun e => ?_) (fun _ => fun σ H m s => hn σ H m ⟨s.len, fun j P hj => ?_⟩)
    · have e1 : m < t.L i := of_decide_eq_true e
      have e2 := c.2 (t.L i) (getD_mem hi)
      exact absurd e2 (by show ¬ t.L i ≤ m; omega)
    · exact s.at_ j P (by
        match j, hj with
        | 0, hj => exact hj
        | 1, hj => exact hj
        | 2, hj => cases hj
        | 3, hj => cases hj)
theorem r_look_room {t : Tk} {m : Int} (a1 : Gv Γ ta (tTalk K t)) (a2 : Gv Γ tb (tD K (.int m))) (c1 : t.len.length ≤ 100) (c2 : ∀ l ∈ t.len, l ≤ m) : Gv Γ (tCall (spLook K) [] E0 (tCons ta (tCons tb tNil))) (tD K .none) :=
  gv_call0 (t, m) (ga_cons a1 (ga_cons a2 ga_nil)) rfl ⟨c1, c2⟩
end
end RP
set_option maxHeartbeats 4000000
namespace RP
open PySem PySem.Spec PyProof.Rows L2
section
variable {P : Program} {w : World} {K : PySem.W.Frag} {mg : Str → Option Value} {base : Heap} {Γ : Ctx} {ta tb tc td te tf' : TE}
theorem Tk.L_get {t : Tk} {i : Nat} (h : i < t.N) : t.len[i]? = some (t.L i) := by
  unfold Tk.L
  rw [List.getD_eq_getElem?_getD, List.getElem?_eq_getElem h]
  rfl
theorem nat_lt {a b : Nat} : decide ((a : Int) < (b : Int)) = decide (a < b) := decide_eq_decide.mpr (by omega)
theorem nat_eq {a b : Nat} : decide ((a : Int) = (b : Int)) = decide (a = b) := decide_eq_decide.mpr (by omega)
theorem sc_first_stand : FnScope [] [] (defScope s_first_stand) := ⟨rfl, rfl, rfl, by decide +kernel, rfl, by decide +kernel, by decide +kernel⟩
def spFirst (K : PySem.W.Frag) : Sp := spP (fun _ : Unit => True) (fun _ => []) (fun _ => tD K (dSd sd0))
theorem c_first_stand (T : Txt K mg) : Cal P w K mg base "first_stand" 1 [] (spFirst K) := by
  obtain ⟨fd, F⟩ := T.d_first_stand
  refine ⟨_, fd, [], [], ?_, T.g_first_stand, F.kp, F.bindsN (fun _ _ _ _ _ _ us hl => match us, hl with | [], _ => rfl), .nil⟩
  refine pure_ok F sc_first_stand (fun _ => rfl) fun cdv A outer s H E i hr c => ⟨_, (pss_one (ps_ret (pe_glob (v := .ref (He.ga K "FIRST")) rfl T.g_FIRST rfl))), fun M D r nn => ?_⟩
  try dsimp only [Cx.nox, cxOf, ent, List.map, List.length_cons, List.length_nil, List.replicate_succ, List.replicate_zero, List.cons_append, List.nil_append, List.set]
  refine go_ret (P := tD K (dSd sd0)) (gv_c fun H => ?_) r fun _ _ h => h
  exact .tup (He.tupB_ok T.ex.first H) (.cons (.int _) (.cons (.int _) (.cons (.int _) (.cons (.int _) (.cons (.int _) (.cons (.int _) .nil))))))
theorem r_first_stand : Gv Γ (tCall (spFirst K) [] E0 tNil) (tD K (dSd sd0)) := gv_call0 () ga_nil rfl trivial
theorem sc_is_over : FnScope ["talk", "stand"] ["talk", "stand"] (defScope s_is_over) := ⟨rfl, rfl, rfl, by decide +kernel, rfl, by decide +kernel, by decide +kernel⟩
def spOver (K : PySem.W.Frag) : Sp := spP (fun i : Tk × Sd => 0 ≤ i.1.tot ∧ i.1.tot < 1000) (fun i => [tTalk K i.1, tD K (dSd i.2)]) (fun i => tD K (.bool (decide (over i.1 i.2))))
theorem c_is_over (T : Txt K mg) : Cal P w K mg base "is_over" 3 [] (spOver K) := by
  obtain ⟨fd, F⟩ := T.d_is_over
  refine ⟨_, fd, ["talk", "stand"], [], ?_, T.g_is_over, F.kp, F.bindsN (fun _ _ _ _ _ _ us hl => match us, hl with | [_, _], _ => rfl), .nil⟩
  refine pure_ok F sc_is_over (fun _ => rfl) fun cdv A outer s H E i hr c => ⟨_, (pss_one (ps_ret (pe_cmpR op_eq (pe_ix (r := rIxT K) ix_tup (pv 1) pe_int (fun _ _ => rfl)) (pe_callB (id := "len") (call_lenT T hr (by decide)) (by rfl) T.f_len (by decide +kernel) (pa_cons (pv 0) pa_nil)) (nomark _)))), fun M D r nn => ?_⟩
  try dsimp only [Cx.nox, cxOf, ent, List.map, List.length_cons, List.length_nil, List.replicate_succ, List.replicate_zero, List.cons_append, List.nil_append, List.set]
  obtain ⟨t, s'⟩ := i
  exact go_retD r (gv_eqI (gv_ixN (j := 4) (gv_var rfl) gv_int rfl rfl) (gv_cb1 (gv_var rfl) (gc_lenT c))) rfl
theorem r_is_over {t : Tk} {s : Sd} (a1 : Gv Γ ta (tTalk K t)) (a2 : Gv Γ tb (tD K (dSd s))) (c : 0 ≤ t.tot ∧ t.tot < 1000) : Gv Γ (tCall (spOver K) [] E0 (tCons ta (tCons tb tNil))) (tD K (.bool (decide (over t s)))) :=
  gv_call0 (t, s) (ga_cons a1 (ga_cons a2 ga_nil)) rfl c
theorem sc_has_room : FnScope ["talk", "stand", "most", "number", "coming", "got", "kept", "others"] ["talk", "stand", "most"] (defScope s_has_room) := ⟨rfl, rfl, rfl, by decide +kernel, rfl, by decide +kernel, by decide +kernel⟩
def rm (t : Tk) (s : Sd) (m : Int) : Bool := decide (s.n < t.N) && decide (s.k + t.L s.n ≤ m)
def spHas (K : PySem.W.Frag) : Sp := spP (fun _ : Tk × Sd × Int => True) (fun i => [tTalk K i.1, tD K (dSd i.2.1), tD K (.int i.2.2)]) (fun i => tD K (.bool (rm i.1 i.2.1 i.2.2)))
theorem c_has_room (T : Txt K mg) : Cal P w K mg base "has_room" 1 [] (spHas K) := by
  obtain ⟨fd, F⟩ := T.d_has_room
  refine ⟨_, fd, ["talk", "stand", "most"], [], ?_, T.g_has_room, F.kp, F.bindsN (fun _ _ _ _ _ _ us hl => match us, hl with | [_, _, _], _ => rfl), .nil⟩
  refine pure_ok F sc_has_room (fun _ => rfl) fun cdv A outer s H E i hr c => ⟨_, (pss_cons (ps_asg (pv 1) (pg_star (n := 5) (i := 4) rfl (pgs_cons (pg_name (i := 3) sc_has_room.nd rfl (Or.inl rfl)) (pgs_cons (pg_name (i := 4) sc_has_room.nd rfl (Or.inl rfl)) (pgs_cons (pg_name (i := 5) sc_has_room.nd rfl (Or.inl rfl)) (pgs_cons (pg_name (i := 6) sc_has_room.nd rfl (Or.inl rfl)) (pgs_star (pg_name (i := 7) sc_has_room.nd rfl (Or.inl rfl)) pgs_nil))))))) (pss_one (ps_ret (pe_and (pe_cmpR op_lt (pv 3) (pe_callB (id := "len") (r := rLn K) call_len_seq (by rfl) T.f_len (by decide +kernel) (pa_cons (pe_fld (pv 0) rfl) pa_nil)) (nomark _)) (pe_one (pe_cmpR op_le (pe_op op_add (pv 6) (pe_ix (r := rIxT K) ix_tup (pe_fld (pv 0) rfl) (pv 3) (fun _ _ => rfl))) (pv 2) (nomark _))))))), fun M D r nn => ?_⟩
  try dsimp only [Cx.nox, cxOf, ent, List.map, List.length_cons, List.length_nil, List.replicate_succ, List.replicate_zero, List.cons_append, List.nil_append, List.set]
  obtain ⟨t, s', m⟩ := i
  refine q_asg (gv_var rfl) (gt_star0 (first := [.int s'.n, .int s'.c, .int s'.g, .int s'.k]) (mids := [.int s'.p, .int s'.w]) (gts_cons gt_name (gts_cons gt_name (gts_cons gt_name (gts_cons gt_name (gts_cons gt_name gts_nil))))) rfl rfl (Nat.le_of_ble_eq_true rfl)) ?_
  try dsimp only [List.set]
  refine go_retD r (gv_and (gv_b0 (gv_var rfl) (gv_cb1 (gv_Talk_lengths T (gv_var rfl)) gc_len)) fun h => gv_b0 (gv_i0 (gv_var rfl) (gv_ixI (j := s'.n) (gv_Talk_lengths T (gv_var rfl)) (gv_var rfl) rfl (Tk.L_get ?_))) (gv_var rfl)) ?_
  · have := of_decide_eq_true h
    rw [List.length_map] at this
    exact Int.ofNat_lt.mp this
  · rw [List.length_map, nat_lt]
    rfl
theorem r_has_room {t : Tk} {s : Sd} {m : Int} (a1 : Gv Γ ta (tTalk K t)) (a2 : Gv Γ tb (tD K (dSd s))) (a3 : Gv Γ tc (tD K (.int m))) : Gv Γ (tCall (spHas K) [] E0 (tCons ta (tCons tb (tCons tc tNil)))) (tD K (.bool (rm t s m))) :=
  gv_call0 (t, s, m) (ga_cons a1 (ga_cons a2 (ga_cons a3 ga_nil))) rfl trivial
theorem sc_asks : FnScope ["talk", "stand", "most"] ["talk", "stand", "most"] (defScope s_asks) := ⟨rfl, rfl, rfl, by decide +kernel, rfl, by decide +kernel, by decide +kernel⟩
def ask (t : Tk) (s : Sd) (m : Int) : Bool := decide (s.c = -1) && rm t s m
def spAsks (K : PySem.W.Frag) : Sp := spP (fun i : Tk × Sd × Int => i.1.len.length ≤ 100 ∧ ∀ l ∈ i.1.len, l ≤ i.2.2) (fun i => [tTalk K i.1, tD K (dSd i.2.1), tD K (.int i.2.2)]) (fun i => tD K (.bool (ask i.1 i.2.1 i.2.2)))
abbrev gApp : List V → List V → List V := fun vs zs => vs ++ zs
theorem ck_asks (T : Txt K mg) : CalK P w K mg base "asks" 2 2 ["most"] gApp (spAsks K) := by
  obtain ⟨fd, F⟩ := T.d_asks
  obtain ⟨mv, B⟩ := F.kbinds0 (ps := ["talk", "stand", "most"]) 2 ["most"] [] (fun us _ ws => us ++ ws) (fun h => nomatch h) (fun _ h => nomatch h) (fun r _ q => r.append q)
    (fun D doc pm an cdv ct us mv ws h1 h2 h3 => match us, ws, h1, h3 with | [_, _], [_], _, _ => rfl)
  refine ⟨_, fd, _, _, ?_, T.g_asks, F.kp, B⟩
  refine pure_ok F sc_asks (fun _ => rfl) fun cdv A outer s H E i hr c => ⟨_, (pss_cons (ps_expr (pe_cal (c_look_room T) hr (by decide) rfl (pa_cons (pv 0) (pa_cons (pv 2) pa_nil)))) (pss_one (ps_ret (pe_and (pe_cmpR op_eq (pe_ix (r := rIxT K) ix_tup (pv 1) pe_int (fun _ _ => rfl)) (pe_glob (v := .int (-1)) rfl T.i_NONE.choose_spec ⟨_, rfl⟩) (nomark _)) (pe_one (pe_cal (c_has_room T) hr (by decide) rfl (pa_cons (pv 0) (pa_cons (pv 1) (pa_cons (pv 2) pa_nil))))))))), fun M D r nn => ?_⟩
  try dsimp only [Cx.nox, cxOf, ent, List.map, List.length_cons, List.length_nil, List.replicate_succ, List.replicate_zero, List.cons_append, List.nil_append, List.set]
  obtain ⟨t, s', m⟩ := i
  refine q_drop (r_look_room (gv_var rfl) (gv_var rfl) c.1 c.2) ?_
  exact go_retD r (gv_and (gv_eqI (gv_ixN (j := 1) (gv_var rfl) gv_int rfl rfl) gv_int) fun _ => r_has_room (gv_var rfl) (gv_var rfl) (gv_var rfl)) rfl
theorem r_asks {t : Tk} {s : Sd} {m : Int} (a1 : Gv Γ ta (tTalk K t)) (a2 : Gv Γ tb (tD K (dSd s))) (a3 : Gv Γ tc (tD K (.int m))) (c1 : t.len.length ≤ 100) (c2 : ∀ l ∈ t.len, l ≤ m) : Gv Γ (tCallN 2 1 (spAsks K) gApp E0 (tCons ta (tCons tb tNil)) (tCons tc tNil)) (tD K (.bool (ask t s m))) :=
  gv_callN (t, s, m) (ga_cons a1 (ga_cons a2 ga_nil)) (ga_cons a3 ga_nil) rfl rfl (fun H vs zs h1 h2 => h1.app h2) ⟨c1, c2⟩
theorem sc_chosen : FnScope ["stand", "rate", "wait", "number", "coming", "got", "others"] ["stand", "rate", "wait"] (defScope s_chosen) := ⟨rfl, rfl, rfl, by decide +kernel, rfl, by decide +kernel, by decide +kernel⟩
def cho (s : Sd) (r wt : Int) : Sd := ⟨s.n, r, 0 - wt, s.k, s.p, s.w⟩
def spChosen (K : PySem.W.Frag) : Sp := spP (fun _ : Sd × Int × Int => True) (fun i => [tD K (dSd i.1), tD K (.int i.2.1), tD K (.int i.2.2)]) (fun i => tD K (dSd (cho i.1 i.2.1 i.2.2)))
theorem ck_chosen (T : Txt K mg) : CalK P w K mg base "chosen" 1 2 ["wait"] gApp (spChosen K) := by
  obtain ⟨fd, F⟩ := T.d_chosen
  obtain ⟨mv, B⟩ := F.kbinds0 (ps := ["stand", "rate", "wait"]) 2 ["wait"] [] (fun us _ ws => us ++ ws) (fun h => nomatch h) (fun _ h => nomatch h) (fun r _ q => r.append q)
    (fun D doc pm an cdv ct us mv ws h1 h2 h3 => match us, ws, h1, h3 with | [_, _], [_], _, _ => rfl)
  refine ⟨_, fd, _, _, ?_, T.g_chosen, F.kp, B⟩
  refine pure_ok F sc_chosen (fun _ => rfl) fun cdv A outer s H E i hr c => ⟨_, (pss_cons (ps_asg (pv 0) (pg_star (n := 4) (i := 3) rfl (pgs_cons (pg_name (i := 3) sc_chosen.nd rfl (Or.inl rfl)) (pgs_cons (pg_name (i := 4) sc_chosen.nd rfl (Or.inl rfl)) (pgs_cons (pg_name (i := 5) sc_chosen.nd rfl (Or.inl rfl)) (pgs_star (pg_name (i := 6) sc_chosen.nd rfl (Or.inl rfl)) pgs_nil)))))) (pss_one (ps_ret (pe_op (r := rCatA K) op_catA (pe_tup (pa_cons (pv 3) (pa_cons (pv 1) (pa_cons (pe_op op_sub pe_int (pv 2)) pa_nil)))) (pe_callTy (T := "tuple") (r := rTupOf K) call_tuple_of (by rfl) T.f_tuple (by decide +kernel) (pa_cons (pv 6) pa_nil)))))), fun M D r nn => ?_⟩
  try dsimp only [Cx.nox, cxOf, ent, List.map, List.length_cons, List.length_nil, List.replicate_succ, List.replicate_zero, List.cons_append, List.nil_append, List.set]
  obtain ⟨s', r', wt⟩ := i
  refine q_asg (gv_var rfl) (gt_star0 (first := [.int s'.n, .int s'.c, .int s'.g]) (mids := [.int s'.k, .int s'.p, .int s'.w]) (gts_cons gt_name (gts_cons gt_name (gts_cons gt_name (gts_cons gt_name gts_nil)))) rfl rfl (Nat.le_of_ble_eq_true rfl)) ?_
  exact go_retD r (gv_cat (gv_tupd (gd_cons (gv_var rfl) (gd_cons (gv_var rfl) (gd_cons (gv_i0 gv_int (gv_var rfl)) gd_nil))) rfl) (gv_cb1 (gv_var rfl) gc_tupL) (Nat.le_of_ble_eq_true rfl)) rfl
theorem r_chosen {s : Sd} {r wt : Int} (a1 : Gv Γ ta (tD K (dSd s))) (a2 : Gv Γ tb (tD K (.int r))) (a3 : Gv Γ tc (tD K (.int wt))) : Gv Γ (tCallN 2 1 (spChosen K) gApp E0 (tCons ta (tCons tb tNil)) (tCons tc tNil)) (tD K (dSd (cho s r wt))) :=
  gv_callN (s, r, wt) (ga_cons a1 (ga_cons a2 ga_nil)) (ga_cons a3 ga_nil) rfl rfl (fun H vs zs h1 h2 => h1.app h2) trivial
theorem sc_begins : FnScope ["talk", "stand", "begin", "again", "most", "number", "coming", "got", "kept", "played", "going"] ["talk", "stand", "begin", "again", "most"] (defScope s_begins) := ⟨rfl, rfl, rfl, by decide +kernel, rfl, by decide +kernel, by decide +kernel⟩
structure Ob where
  t : Tk
  s : Sd
  b : Int
  a : Int
  m : Int
def bgs (o : Ob) : Bool := (decide ((if o.s.w = 0 then o.b else o.a) ≤ o.s.k) || decide (o.s.n = o.t.N)) || (decide (o.s.c = -1) && !rm o.t o.s o.m)
abbrev obTy (K : PySem.W.Frag) (o : Ob) : List Ty := [tTalk K o.t, tD K (dSd o.s), tD K (.int o.b), tD K (.int o.a), tD K (.int o.m)]
def spBegins (K : PySem.W.Frag) : Sp := spP (fun o : Ob => o.s.w = 0 ∨ o.s.w = 2) (obTy K) (fun o => tD K (.bool (bgs o)))
theorem c_begins (T : Txt K mg) : Cal P w K mg base "begins" 2 [] (spBegins K) := by
  obtain ⟨fd, F⟩ := T.d_begins
  refine ⟨_, fd, ["talk", "stand", "begin", "again", "most"], [], ?_, T.g_begins, F.kp, F.bindsN (fun _ _ _ _ _ _ us hl => match us, hl with | [_, _, _, _, _], _ => rfl), .nil⟩
  refine pure_ok F sc_begins (fun _ => rfl) fun cdv A outer s H E i hr c => ⟨_, (pss_cons (ps_asg (pv 1) (pg_tup rfl (pgs_cons (pg_name (i := 5) sc_begins.nd rfl (Or.inl rfl)) (pgs_cons (pg_name (i := 6) sc_begins.nd rfl (Or.inl rfl)) (pgs_cons (pg_name (i := 7) sc_begins.nd rfl (Or.inl rfl)) (pgs_cons (pg_name (i := 8) sc_begins.nd rfl (Or.inl rfl)) (pgs_cons (pg_name (i := 9) sc_begins.nd rfl (Or.inl rfl)) (pgs_cons (pg_name (i := 10) sc_begins.nd rfl (Or.inl rfl)) pgs_nil)))))))) (pss_cons (ps_if (PW.pt (pw_or (pt_cmpR op_ge (pv 8) (pe_dget (hu_of hr) (pe_disp (pps_cons (pe_glob (v := .int (0)) rfl T.i_AHEAD.choose_spec ⟨_, rfl⟩) (pv 2) (pps_cons (pe_glob (v := .int (2)) rfl T.i_STALLS.choose_spec ⟨_, rfl⟩) (pv 3) pps_nil)) (by rfl) (by rfl) (fun z => by cases z) (by decide)) (pv 10) (fun _ _ => rfl)) (nomark _)) (pw_or1 (pt_cmpR op_eq (pv 5) (pe_callB (id := "len") (r := rLn K) call_len_seq (by rfl) T.f_len (by decide +kernel) (pa_cons (pe_fld (pv 0) rfl) pa_nil)) (nomark _))))) (pss_one (ps_ret pe_bl)) pss_nil) (pss_one (ps_ret (pe_and (pe_cmpR op_eq (pv 6) (pe_glob (v := .int (-1)) rfl T.i_NONE.choose_spec ⟨_, rfl⟩) (nomark _)) (pe_one (pe_not (pe_cal (c_has_room T) hr (by decide) rfl (pa_cons (pv 0) (pa_cons (pv 1) (pa_cons (pv 4) pa_nil))))))))))), fun M D r nn => ?_⟩
  try dsimp only [Cx.nox, cxOf, ent, List.map, List.length_cons, List.length_nil, List.replicate_succ, List.replicate_zero, List.cons_append, List.nil_append, List.set]
  obtain ⟨t, s', b, a, m⟩ := i
  refine q_asg (gv_var rfl) (gt_tup (ds := [.int s'.n, .int s'.c, .int s'.g, .int s'.k, .int s'.p, .int s'.w]) (gts_cons gt_name (gts_cons gt_name (gts_cons gt_name (gts_cons gt_name (gts_cons gt_name (gts_cons gt_name gts_nil)))))) rfl) ?_
  have gx : ∀ {Γ : Ctx} {u1 u2 u3 u4 u5 : TE}, Gv Γ u1 (tD K (.int 0)) → Gv Γ u2 (tD K (.int b)) → Gv Γ u3 (tD K (.int 2)) → Gv Γ u4 (tD K (.int a)) → Gv Γ u5 (tD K (.int s'.w)) → Gv Γ (tDGet (tDisp [(u1, u2), (u3, u4)]) u5) (tD K (.int (if s'.w = 0 then b else a))) := fun h1 h2 h3 h4 h5 =>
    gv_dget2 h1 h2 h3 h4 h5 (by decide) (by
      rcases (show s'.w = 0 ∨ s'.w = 2 from c) with e | e
      · exact .inl ⟨e, by rw [if_pos e]⟩
      · exact .inr ⟨e, by rw [if_neg (by omega)]⟩)
  refine q_when (b := decide ((if s'.w = 0 then b else a) ≤ s'.k) || decide (s'.n = t.N)) ?_ (fun h => ?_) (fun h => ?_)
  · refine gb_or (gb_val (gv_b0 (gv_var rfl) (gx gv_int (gv_var rfl) gv_int (gv_var rfl) (gv_var rfl)))) fun _ => (gb_val (gv_eqI (gv_var rfl) (gv_cb1 (gv_Talk_lengths T (gv_var rfl)) gc_len))).eq ?_
    rw [List.length_map, nat_eq]
    rfl
  · refine go_retD r gv_bl ?_
    show PyData.bool true = PyData.bool ((decide ((if s'.w = 0 then b else a) ≤ s'.k) || decide (s'.n = t.N)) || (decide (s'.c = -1) && !rm t s' m))
    rw [h, Bool.true_or]
  · refine go_retD r (gv_and (gv_eqI (gv_var rfl) gv_int) fun _ => gv_not (r_has_room (gv_var rfl) (gv_var rfl) (gv_var rfl))) ?_
    show _ = PyData.bool ((decide ((if s'.w = 0 then b else a) ≤ s'.k) || decide (s'.n = t.N)) || (decide (s'.c = -1) && !rm t s' m))
    rw [h, Bool.false_or]
theorem r_begins {o : Ob} (a1 : Gv Γ ta (tTalk K o.t)) (a2 : Gv Γ tb (tD K (dSd o.s))) (a3 : Gv Γ tc (tD K (.int o.b))) (a4 : Gv Γ td (tD K (.int o.a))) (a5 : Gv Γ te (tD K (.int o.m))) (c : o.s.w = 0 ∨ o.s.w = 2) :
    Gv Γ (tCall (spBegins K) [] E0 (tCons ta (tCons tb (tCons tc (tCons td (tCons te tNil)))))) (tD K (.bool (bgs o))) := gv_call0 o (ga_cons a1 (ga_cons a2 (ga_cons a3 (ga_cons a4 (ga_cons a5 ga_nil))))) rfl c
theorem sc_played_on : FnScope ["talk", "stand", "begin", "again", "most", "number", "coming", "got", "kept", "played", "going"] ["talk", "stand", "begin", "again", "most"] (defScope s_played_on) := ⟨rfl, rfl, rfl, by decide +kernel, rfl, by decide +kernel, by decide +kernel⟩
def plo (o : Ob) : Int × Int × Int := if (decide (o.s.w ≠ 1) && !bgs o) = true then (o.s.k, o.s.p, o.s.w) else if o.s.k = 0 then (o.s.k, o.s.p, 2) else (o.s.k - 1, o.s.p + 1, 1)
def d3 (q : Int × Int × Int) : PyData := .tuple [.int q.1, .int q.2.1, .int q.2.2]
def spPlayed (K : PySem.W.Frag) : Sp := spP (fun o : Ob => o.s.w = 0 ∨ o.s.w = 1 ∨ o.s.w = 2) (obTy K) (fun o => tD K (d3 (plo o)))
theorem c_played_on (T : Txt K mg) : Cal P w K mg base "played_on" 3 [] (spPlayed K) := by
  obtain ⟨fd, F⟩ := T.d_played_on
  refine ⟨_, fd, ["talk", "stand", "begin", "again", "most"], [], ?_, T.g_played_on, F.kp, F.bindsN (fun _ _ _ _ _ _ us hl => match us, hl with | [_, _, _, _, _], _ => rfl), .nil⟩
  refine pure_ok F sc_played_on (fun _ => rfl) fun cdv A outer s H E i hr c => ⟨_, (pss_cons (ps_asg (pv 1) (pg_tup rfl (pgs_cons (pg_name (i := 5) sc_played_on.nd rfl (Or.inl rfl)) (pgs_cons (pg_name (i := 6) sc_played_on.nd rfl (Or.inl rfl)) (pgs_cons (pg_name (i := 7) sc_played_on.nd rfl (Or.inl rfl)) (pgs_cons (pg_name (i := 8) sc_played_on.nd rfl (Or.inl rfl)) (pgs_cons (pg_name (i := 9) sc_played_on.nd rfl (Or.inl rfl)) (pgs_cons (pg_name (i := 10) sc_played_on.nd rfl (Or.inl rfl)) pgs_nil)))))))) (pss_cons (ps_if (PW.pt (pw_and (pt_cmpR op_ne (pv 10) (pe_glob (v := .int (1)) rfl T.i_PLAYS.choose_spec ⟨_, rfl⟩) (nomark _)) (pw_and1 (pt_not (pt_val (pe_cal (c_begins T) hr (by decide) rfl (pa_cons (pv 0) (pa_cons (pv 1) (pa_cons (pv 2) (pa_cons (pv 3) (pa_cons (pv 4) pa_nil))))))))))) (pss_one (ps_ret (pe_tup (pa_cons (pv 8) (pa_cons (pv 9) (pa_cons (pv 10) pa_nil)))))) pss_nil) (pss_cons (ps_if (pt_cmpR op_eq (pv 8) pe_int (nomark _)) (pss_one (ps_ret (pe_tup (pa_cons (pv 8) (pa_cons (pv 9) (pa_cons (pe_glob (v := .int (2)) rfl T.i_STALLS.choose_spec ⟨_, rfl⟩) pa_nil)))))) pss_nil) (pss_one (ps_ret (pe_tup (pa_cons (pe_op op_sub (pv 8) pe_int) (pa_cons (pe_op op_add (pv 9) pe_int) (pa_cons (pe_glob (v := .int (1)) rfl T.i_PLAYS.choose_spec ⟨_, rfl⟩) pa_nil))))))))), fun M D r nn => ?_⟩
  try dsimp only [Cx.nox, cxOf, ent, List.map, List.length_cons, List.length_nil, List.replicate_succ, List.replicate_zero, List.cons_append, List.nil_append, List.set]
  obtain ⟨t, s', b, a, m⟩ := i
  refine q_asg (gv_var rfl) (gt_tup (ds := [.int s'.n, .int s'.c, .int s'.g, .int s'.k, .int s'.p, .int s'.w]) (gts_cons gt_name (gts_cons gt_name (gts_cons gt_name (gts_cons gt_name (gts_cons gt_name (gts_cons gt_name gts_nil)))))) rfl) ?_
  try dsimp only [List.set]
  refine q_when (b := decide (s'.w ≠ 1) && !bgs ⟨t, s', b, a, m⟩) ?_ (fun h => ?_) (fun h => ?_)
  · refine gb_and ((gb_val (gv_neI (gv_var rfl) gv_int)).eq (by rw [decide_not])) fun h => gb_not (gb_b (r_begins (o := ⟨t, s', b, a, m⟩) (gv_var rfl) (gv_var rfl) (gv_var rfl) (gv_var rfl) (gv_var rfl) ?_))
    have := of_decide_eq_true h
    have c' : s'.w = 0 ∨ s'.w = 1 ∨ s'.w = 2 := c
    show s'.w = 0 ∨ s'.w = 2
    omega
  · refine go_retD r (gv_tupd (gd_cons (gv_var rfl) (gd_cons (gv_var rfl) (gd_cons (gv_var rfl) gd_nil))) rfl) ?_
    show _ = d3 (plo ⟨t, s', b, a, m⟩)
    unfold plo
    rw [if_pos h]
    rfl
  · have e : plo ⟨t, s', b, a, m⟩ = if s'.k = 0 then (s'.k, s'.p, 2) else (s'.k - 1, s'.p + 1, 1) := by
      unfold plo
      rw [if_neg (by rw [h]; decide)]
    refine q_when (gb_val (gv_eqI (gv_var rfl) gv_int)) (fun h2 => ?_) (fun h2 => ?_)
    · refine go_retD r (gv_tupd (gd_cons (gv_var rfl) (gd_cons (gv_var rfl) (gd_cons gv_int gd_nil))) rfl) ?_
      show _ = d3 (plo ⟨t, s', b, a, m⟩)
      rw [e, if_pos (of_decide_eq_true h2)]
      rfl
    · refine go_retD r (gv_tupd (gd_cons (gv_i0 (gv_var rfl) gv_int) (gd_cons (gv_i0 (gv_var rfl) gv_int) (gd_cons gv_int gd_nil))) rfl) ?_
      show _ = d3 (plo ⟨t, s', b, a, m⟩)
      rw [e, if_neg (of_decide_eq_false h2)]
      rfl
theorem r_played_on {o : Ob} (a1 : Gv Γ ta (tTalk K o.t)) (a2 : Gv Γ tb (tD K (dSd o.s))) (a3 : Gv Γ tc (tD K (.int o.b))) (a4 : Gv Γ td (tD K (.int o.a))) (a5 : Gv Γ te (tD K (.int o.m))) (c : o.s.w = 0 ∨ o.s.w = 1 ∨ o.s.w = 2) :
    Gv Γ (tCall (spPlayed K) [] E0 (tCons ta (tCons tb (tCons tc (tCons td (tCons te tNil)))))) (tD K (d3 (plo o))) := gv_call0 o (ga_cons a1 (ga_cons a2 (ga_cons a3 (ga_cons a4 (ga_cons a5 ga_nil))))) rfl c
end
end RP
set_option maxHeartbeats 4000000
namespace RP
open PySem PySem.Spec PyProof.Rows L2
section
variable {P : Program} {w : World} {K : PySem.W.Frag} {mg : Str → Option Value} {base : Heap} {Γ : Ctx} {ta tb tc td te tf' : TE}
theorem TOk.len6 {t : Tk} (h : TOk t) : t.len.length ≤ 6 := h.le
theorem TOk.tot0 {t : Tk} (h : TOk t) : 0 ≤ t.tot ∧ t.tot < 1000 := by
  have h1 := take_le (fun x hx => (h.l1 x hx).1) t.len.length
  rw [List.take_length] at h1
  have h2 : ∀ (l : List Int), (∀ x ∈ l, x ≤ 5) → l.sum ≤ 5 * l.length := by
    intro l
    induction l with
    | nil => intro _; simp
    | cons a l ih =>
      intro q
      have q1 := q a (List.mem_cons_self ..)
      have q2 := ih fun x hx => q x (List.mem_cons_of_mem _ hx)
      rw [List.sum_cons, List.length_cons]
      omega
  have h3 := h2 t.len fun x hx => (h.l1 x hx).2
  have h4 : t.len.length ≤ 6 := h.le
  have : t.tot = t.len.sum := rfl
  omega
theorem TOk.row_get {t : Tk} (h : TOk t) {i : Nat} (hi : i < t.N) : t.siz[i]? = some (t.siz.getD i []) := by
  have : i < t.siz.length := by rw [h.same]; exact hi
  rw [List.getD_eq_getElem?_getD, List.getElem?_eq_getElem this]
  rfl
theorem TOk.siz_get {t : Tk} (h : TOk t) {i : Nat} {r : Int} (hi : i < t.N) (h0 : 0 ≤ r) (h1 : r < t.W) : (t.siz.getD i [])[r.toNat]? = some (t.S i r) := by
  have hr := h.wid _ (h.row hi)
  have : r.toNat < (t.siz.getD i []).length := by rw [hr]; omega
  unfold Tk.S
  generalize t.siz.getD i [] = l at this ⊢
  rw [List.getD_eq_getElem?_getD, List.getElem?_eq_getElem this]
  rfl
/-- talk.sizes[i][r] -/
theorem gv_size (T : Txt K mg) {t : Tk} {i : Nat} {r : Int} (ok : TOk t) (h1 : Gv Γ ta (tTalk K t)) (h2 : Gv Γ tb (tD K (.int i))) (h3 : Gv Γ tc (tD K (.int r))) (hi : i < t.N) (r0 : 0 ≤ r) (r1 : r < t.W) :
    Gv Γ (tOp (rIxT K) (tOp (rIxT K) (tFld K ta "sizes") tb) tc) (tD K (.int (t.S i r))) :=
  gv_ixI (ns := t.siz.getD i []) (j := r.toNat) (gv_ixN (j := i) (gv_Talk_sizes T h1) h2 rfl (by rw [List.getElem?_map, ok.row_get hi]; rfl)) h3 (by omega) (ok.siz_get hi r0 r1)
theorem gv_leng (T : Txt K mg) {t : Tk} {i : Nat} (h1 : Gv Γ ta (tTalk K t)) (h2 : Gv Γ tb (tD K (.int i))) (hi : i < t.N) : Gv Γ (tOp (rIxT K) (tFld K ta "lengths") tb) (tD K (.int (t.L i))) :=
  gv_ixI (j := i) (gv_Talk_lengths T h1) h2 rfl (Tk.L_get hi)
theorem gv_lens (T : Txt K mg) {t : Tk} (h1 : Gv Γ ta (tTalk K t)) : Gv Γ (tCB (rLn K) (tCons (tFld K ta "lengths") tNil)) (tD K (.int t.N)) := by
  have z := gv_cb1 (gv_Talk_lengths T h1) (gc_len (K := K))
  rw [List.length_map] at z
  exact z
theorem TOk.manyOk {t : Tk} (h : TOk t) : t.siz ≠ [] ∧ t.siz.length ≤ 100 := by
  have h1 := h.same
  have h2 := h.pos
  have h3 := h.le
  exact ⟨fun e => by rw [e] at h1; simp at h1; omega, by omega⟩
theorem r_many {t : Tk} (ok : TOk t) (h : Gv Γ ta (tTalk K t)) : Gv Γ (tMeth (cTalk K) "many_rates" (spMany K) [] E0 ta tNil) (tD K (.int t.W)) := gv_meth t h (by rfl) ga_nil rfl ok.manyOk
theorem SOk.w3 {t : Tk} {o : Op} {s : Sd} (h : SOk t o s) : s.w = 0 ∨ s.w = 1 ∨ s.w = 2 := by
  rcases h.go with ⟨_, h⟩ | ⟨_, h | h⟩ <;> omega
theorem sc_beat_on : FnScope ["talk", "stand", "speed", "begin", "again", "most", "number", "coming", "got", "others", "kept", "played", "going"] ["talk", "stand", "speed", "begin", "again", "most"] (defScope s_beat_on) := ⟨rfl, rfl, rfl, by decide +kernel, rfl, by decide +kernel, by decide +kernel⟩
structure Bt where
  t : Tk
  o : Op
  s : Sd
  v : Int
def spBeat (K : PySem.W.Frag) : Sp := spP (fun i : Bt => TOk i.t ∧ SOk i.t i.o i.s) (fun i => [tTalk K i.t, tD K (dSd i.s), tD K (.int i.v), tD K (.int i.o.beg), tD K (.int i.o.aga), tD K (.int i.o.mst)]) (fun i => tD K (dSd (beat i.t i.o i.s i.v)))
theorem c_beat_on (T : Txt K mg) : Cal P w K mg base "beat_on" 4 [] (spBeat K) := by
  obtain ⟨fd, F⟩ := T.d_beat_on
  refine ⟨_, fd, ["talk", "stand", "speed", "begin", "again", "most"], [], ?_, T.g_beat_on, F.kp, F.bindsN (fun _ _ _ _ _ _ us hl => match us, hl with | [_, _, _, _, _, _], _ => rfl), .nil⟩
  refine pure_ok F sc_beat_on (fun _ => rfl) fun cdv A outer s H E i hr c => ⟨_, (pss_cons (ps_asg (pv 1) (pg_star (n := 4) (i := 3) rfl (pgs_cons (pg_name (i := 6) sc_beat_on.nd rfl (Or.inl rfl)) (pgs_cons (pg_name (i := 7) sc_beat_on.nd rfl (Or.inl rfl)) (pgs_cons (pg_name (i := 8) sc_beat_on.nd rfl (Or.inl rfl)) (pgs_star (pg_name (i := 9) sc_beat_on.nd rfl (Or.inl rfl)) pgs_nil)))))) (pss_cons (ps_asg (pe_cal (c_played_on T) hr (by decide) rfl (pa_cons (pv 0) (pa_cons (pv 1) (pa_cons (pv 3) (pa_cons (pv 4) (pa_cons (pv 5) pa_nil)))))) (pg_tup rfl (pgs_cons (pg_name (i := 10) sc_beat_on.nd rfl (Or.inl rfl)) (pgs_cons (pg_name (i := 11) sc_beat_on.nd rfl (Or.inl rfl)) (pgs_cons (pg_name (i := 12) sc_beat_on.nd rfl (Or.inl rfl)) pgs_nil))))) (pss_cons (ps_if (pt_cmpR op_eq (pv 7) (pe_glob (v := .int (-1)) rfl T.i_NONE.choose_spec ⟨_, rfl⟩) (nomark _)) (pss_one (ps_ret (pe_tup (pa_cons (pv 6) (pa_cons (pv 7) (pa_cons (pv 8) (pa_cons (pv 10) (pa_cons (pv 11) (pa_cons (pv 12) pa_nil))))))))) pss_nil) (pss_cons (ps_aug (i := 8) sc_beat_on.nd rfl (Or.inl rfl) (pe_ifExp (pt_cmpR op_lt (pv 8) pe_int (nomark _)) pe_int (pv 2)) ip_add) (pss_cons (ps_if (pt_cmpR op_lt (pv 8) (pe_ix (r := rIxT K) ix_tup (pe_ix (r := rIxT K) ix_tup (pe_fld (pv 0) rfl) (pv 6) (fun _ _ => rfl)) (pv 7) (fun _ _ => rfl)) (nomark _)) (pss_one (ps_ret (pe_tup (pa_cons (pv 6) (pa_cons (pv 7) (pa_cons (pv 8) (pa_cons (pv 10) (pa_cons (pv 11) (pa_cons (pv 12) pa_nil))))))))) pss_nil) (pss_one (ps_ret (pe_tup (pa_cons (pe_op op_add (pv 6) pe_int) (pa_cons (pe_glob (v := .int (-1)) rfl T.i_NONE.choose_spec ⟨_, rfl⟩) (pa_cons pe_int (pa_cons (pe_op op_add (pv 10) (pe_ix (r := rIxT K) ix_tup (pe_fld (pv 0) rfl) (pv 6) (fun _ _ => rfl))) (pa_cons (pv 11) (pa_cons (pv 12) pa_nil)))))))))))))), fun M D r nn => ?_⟩
  try dsimp only [Cx.nox, cxOf, ent, List.map, List.length_cons, List.length_nil, List.replicate_succ, List.replicate_zero, List.cons_append, List.nil_append, List.set]
  obtain ⟨t, o, s', v⟩ := i
  obtain ⟨tk, sk⟩ : TOk t ∧ SOk t o s' := c
  refine q_asg (gv_var rfl) (gt_star0 (first := [.int s'.n, .int s'.c, .int s'.g]) (mids := [.int s'.k, .int s'.p, .int s'.w]) (gts_cons gt_name (gts_cons gt_name (gts_cons gt_name (gts_cons gt_name gts_nil)))) rfl rfl (Nat.le_of_ble_eq_true rfl)) ?_
  try dsimp only [List.set]
  refine q_asg (r_played_on (o := ⟨t, s', o.beg, o.aga, o.mst⟩) (gv_var rfl) (gv_var rfl) (gv_var rfl) (gv_var rfl) (gv_var rfl) sk.w3) (gt_tup (ds := [.int (pld t o s').1, .int (pld t o s').2.1, .int (pld t o s').2.2]) (gts_cons gt_name (gts_cons gt_name (gts_cons gt_name gts_nil))) rfl) ?_
  try dsimp only [List.set]
  refine q_when (gb_val (gv_eqI (gv_var rfl) gv_int)) (fun h => ?_) (fun h => ?_)
  · have e := of_decide_eq_true h
    refine go_retD r (gv_tupd (gd_cons (gv_var rfl) (gd_cons (gv_var rfl) (gd_cons (gv_var rfl) (gd_cons (gv_var rfl) (gd_cons (gv_var rfl) (gd_cons (gv_var rfl) gd_nil)))))) rfl) ?_
    show _ = dSd (beat t o s' v)
    unfold beat
    rw [if_pos e]
  · have e : ¬ s'.c = -1 := of_decide_eq_false h
    rcases sk.com with ⟨x, _⟩ | ⟨c0, c1, c2, c3, c4, c5⟩
    · exact absurd x e
    refine q_aug (f := fun i j => i + j) (a := s'.g) (b := if s'.g < 0 then 1 else v) rfl (gv_if (gb_val (gv_b0 (gv_var rfl) gv_int)) (fun h => ?_) (fun h => ?_)) ?_
    · rw [if_pos (of_decide_eq_true h)]
      exact gv_int
    · rw [if_neg (of_decide_eq_false h)]
      exact gv_var rfl
    refine q_when (gb_val (gv_b0 (gv_var rfl) (gv_size T (t := t) (i := s'.n) (r := s'.c) tk (gv_var rfl) (gv_var rfl) (gv_var rfl) c2 c0 c1))) (fun h => ?_) (fun h => ?_)
    · have e2 : bg s' v < t.S s'.n s'.c := of_decide_eq_true h
      refine go_retD r (gv_tupd (gd_cons (gv_var rfl) (gd_cons (gv_var rfl) (gd_cons (gv_var rfl) (gd_cons (gv_var rfl) (gd_cons (gv_var rfl) (gd_cons (gv_var rfl) gd_nil)))))) rfl) ?_
      show _ = dSd (beat t o s' v)
      unfold beat
      rw [if_neg e, if_pos e2]
      rfl
    · have e2 : ¬ bg s' v < t.S s'.n s'.c := of_decide_eq_false h
      refine go_retD r (gv_tupd (gd_cons (gv_i0 (gv_var rfl) gv_int) (gd_cons gv_int (gd_cons gv_int (gd_cons (gv_i0 (gv_var rfl) (gv_leng T (t := t) (i := s'.n) (gv_var rfl) (gv_var rfl) c2)) (gd_cons (gv_var rfl) (gd_cons (gv_var rfl) gd_nil)))))) rfl) ?_
      show _ = dSd (beat t o s' v)
      unfold beat
      rw [if_neg e, if_neg e2]
      rfl
theorem r_beat_on {t : Tk} {o : Op} {s : Sd} {v : Int} (a1 : Gv Γ ta (tTalk K t)) (a2 : Gv Γ tb (tD K (dSd s))) (a3 : Gv Γ tc (tD K (.int v))) (a4 : Gv Γ td (tD K (.int o.beg))) (a5 : Gv Γ te (tD K (.int o.aga))) (a6 : Gv Γ tf' (tD K (.int o.mst))) (c1 : TOk t) (c2 : SOk t o s) :
    Gv Γ (tCall (spBeat K) [] E0 (tCons ta (tCons tb (tCons tc (tCons td (tCons te (tCons tf' tNil))))))) (tD K (dSd (beat t o s v))) := gv_call0 (ι := Bt) ⟨t, o, s, v⟩ (ga_cons a1 (ga_cons a2 (ga_cons a3 (ga_cons a4 (ga_cons a5 (ga_cons a6 ga_nil)))))) rfl ⟨c1, c2⟩
theorem sc_is_whole_stands : FnScope ["thing"] ["thing"] (defScope s_is_whole_stands) := ⟨rfl, rfl, rfl, by decide +kernel, rfl, by decide +kernel, by decide +kernel⟩
def spWhole (K : PySem.W.Frag) : Sp := spP (fun _ : Int => True) (fun i => [tD K (.int i)]) (fun _ => tD K (.bool true))
theorem c_is_whole_stands (T : Txt K mg) : Cal P w K mg base "is_whole_stands" 1 [] (spWhole K) := by
  obtain ⟨fd, F⟩ := T.d_is_whole_stands
  refine ⟨_, fd, ["thing"], [], ?_, T.g_is_whole_stands, F.kp, F.bindsN (fun _ _ _ _ _ _ us hl => match us, hl with | [_], _ => rfl), .nil⟩
  refine pure_ok F sc_is_whole_stands (fun _ => rfl) fun cdv A outer s H E i hr c => ⟨_, (pss_one (ps_ret (pe_and (pe_callB (id := "isinstance") (r := rIsi K) call_isi (by rfl) T.f_isinstance (by decide +kernel) (pa_cons (pv 0) (pa_cons (pe_bltn (v := .ty "int") rfl T.f_int (by decide +kernel) rfl) pa_nil))) (pe_one (pe_not (pe_callB (id := "isinstance") (r := rIsi K) call_isi (by rfl) T.f_isinstance (by decide +kernel) (pa_cons (pv 0) (pa_cons (pe_bltn (v := .ty "bool") rfl T.f_bool (by decide +kernel) rfl) pa_nil)))))))), fun M D r nn => ?_⟩
  try dsimp only [Cx.nox, cxOf, ent, List.map, List.length_cons, List.length_nil, List.replicate_succ, List.replicate_zero, List.cons_append, List.nil_append, List.set]
  exact go_retD r (gv_and (gv_isi (gv_var rfl) kb_ii) fun _ => gv_not (gv_isi (gv_var rfl) kb_ib)) rfl
theorem r_is_whole {i : Int} (a1 : Gv Γ ta (tD K (.int i))) : Gv Γ (tCall (spWhole K) [] E0 (tCons ta tNil)) (tD K (.bool true)) := gv_call0 i (ga_cons a1 ga_nil) rfl trivial
theorem sc_is_coming : FnScope ["talk", "number", "coming", "got", "wait"] ["talk", "number", "coming", "got", "wait"] (defScope s_is_coming) := ⟨rfl, rfl, rfl, by decide +kernel, rfl, by decide +kernel, by decide +kernel⟩
structure Cm where
  t : Tk
  o : Op
  s : Sd
def spComing (K : PySem.W.Frag) : Sp := spP (fun i : Cm => TOk i.t ∧ SOk i.t i.o i.s) (fun i => [tTalk K i.t, tD K (.int i.s.n), tD K (.int i.s.c), tD K (.int i.s.g), tD K (.int i.o.wai)]) (fun _ => tD K (.bool true))
theorem c_is_coming (T : Txt K mg) : Cal P w K mg base "is_coming" 2 [] (spComing K) := by
  obtain ⟨fd, F⟩ := T.d_is_coming
  refine ⟨_, fd, ["talk", "number", "coming", "got", "wait"], [], ?_, T.g_is_coming, F.kp, F.bindsN (fun _ _ _ _ _ _ us hl => match us, hl with | [_, _, _, _, _], _ => rfl), .nil⟩
  refine pure_ok F sc_is_coming (fun _ => rfl) fun cdv A outer s H E i hr c => ⟨_, (pss_cons (ps_if (pt_cmpR op_eq (pv 2) (pe_glob (v := .int (-1)) rfl T.i_NONE.choose_spec ⟨_, rfl⟩) (nomark _)) (pss_one (ps_ret (pe_cmpR op_eq (pv 3) pe_int (nomark _)))) pss_nil) (pss_cons (ps_if (PW.pt (pw_or (pt_not (pt_chain op_le op_lt pe_int (pv 2) (pe_calM0 (c_Talk_many_rates T) T.c_Talk hr (by decide) (pv 0)))) (pw_or1 (pt_cmpR op_eq (pv 1) (pe_callB (id := "len") (r := rLn K) call_len_seq (by rfl) T.f_len (by decide +kernel) (pa_cons (pe_fld (pv 0) rfl) pa_nil)) (nomark _))))) (pss_one (ps_ret pe_bl)) pss_nil) (pss_one (ps_ret (pe_chain op_le op_lt (pe_op op_sub pe_int (pv 4)) (pv 3) (pe_ix (r := rIxT K) ix_tup (pe_ix (r := rIxT K) ix_tup (pe_fld (pv 0) rfl) (pv 1) (fun _ _ => rfl)) (pv 2) (fun _ _ => rfl))))))), fun M D r nn => ?_⟩
  try dsimp only [Cx.nox, cxOf, ent, List.map, List.length_cons, List.length_nil, List.replicate_succ, List.replicate_zero, List.cons_append, List.nil_append, List.set]
  obtain ⟨t, o, s'⟩ := i
  obtain ⟨tk, sk⟩ : TOk t ∧ SOk t o s' := c
  refine q_when (gb_val (gv_eqI (gv_var rfl) gv_int)) (fun h => ?_) (fun h => ?_)
  · have e : s'.c = -1 := of_decide_eq_true h
    refine go_retD r (gv_eqI (gv_var rfl) gv_int) ?_
    rcases sk.com with ⟨_, x⟩ | ⟨c0, _⟩
    · show PyData.bool (decide (s'.g = 0)) = _
      rw [x]; rfl
    · omega
  · have e : ¬ s'.c = -1 := of_decide_eq_false h
    rcases sk.com with ⟨x, _⟩ | ⟨c0, c1, c2, c3, c4, c5⟩
    · exact absurd x e
    have b1 : (decide ((0 : Int) ≤ s'.c) && decide (s'.c < (t.W : Int))) = true := by
      rw [decide_eq_true c0, decide_eq_true c1]; rfl
    have b2 : decide ((s'.n : Int) = (t.N : Int)) = false := decide_eq_false (by omega)
    refine q_when (b := false) ?_ (fun h => by cases h) (fun _ => ?_)
    · refine (gb_or (gb_not (gb_val (gv_chain0 gv_int (gv_var rfl) fun _ => r_many tk (gv_var rfl)))) fun _ => gb_val (gv_eqI (gv_var rfl) (gv_lens T (t := t) (gv_var rfl)))).eq ?_
      show (!(decide ((0 : Int) ≤ s'.c) && decide (s'.c < (t.W : Int))) || decide ((s'.n : Int) = (t.N : Int))) = false
      rw [b1, b2]; rfl
    · refine go_retD r (gv_chain0 (gv_i0 gv_int (gv_var rfl)) (gv_var rfl) fun _ => gv_size T (t := t) (i := s'.n) (r := s'.c) tk (gv_var rfl) (gv_var rfl) (gv_var rfl) c2 c0 c1) ?_
      show PyData.bool (decide ((0 : Int) - o.wai ≤ s'.g) && decide (s'.g < t.S s'.n s'.c)) = _
      rw [decide_eq_true (by omega), decide_eq_true c4]; rfl
theorem r_is_coming {t : Tk} {o : Op} {s : Sd} (a1 : Gv Γ ta (tTalk K t)) (a2 : Gv Γ tb (tD K (.int s.n))) (a3 : Gv Γ tc (tD K (.int s.c))) (a4 : Gv Γ td (tD K (.int s.g))) (a5 : Gv Γ te (tD K (.int o.wai))) (c1 : TOk t) (c2 : SOk t o s) :
    Gv Γ (tCall (spComing K) [] E0 (tCons ta (tCons tb (tCons tc (tCons td (tCons te tNil)))))) (tD K (.bool true)) := gv_call0 (ι := Cm) ⟨t, o, s⟩ (ga_cons a1 (ga_cons a2 (ga_cons a3 (ga_cons a4 (ga_cons a5 ga_nil))))) rfl ⟨c1, c2⟩
/-- all([is_whole(one) for one in six numbers]) -/
theorem gi_ints {ns : List Int} (h : Gv Γ ta (tD K (dI ns))) : Gi Γ (iTup K ta) ns.length (fun i => tD K (.int (ns.getD i 0))) := by
  have z := gi_tup (T := fun i => tD K (.int (ns.getD i 0))) h (fun i d hd => by
    rw [List.getElem?_map] at hd
    cases e : ns[i]? with
    | none => rw [e] at hd; cases hd
    | some z =>
      rw [e] at hd
      cases hd
      show tD K (.int (ns.getD i 0)) = _
      rw [List.getD_eq_getElem?_getD, e]
      rfl)
  rw [List.length_map] at z
  exact z
theorem rep_get {α : Type} {n i : Nat} {x d : α} (h : (List.replicate n x)[i]? = some d) : d = x := by
  rw [List.getElem?_replicate] at h
  split at h
  · exact (Option.some.inj h).symm
  · cases h
theorem gv_allTrue {wi : TI} {n j : Nat} {U : Nat → Ty} (hi : Gi Γ wi n U) (hz : n ≤ 1000) (he : ∀ i, i < n → Gv ((Γ.set j none).set j (some (U i))) te (tD K (.bool true))) : Gv Γ (tCB (rAll K) (tCons (tLc wi (gName j) tYes te [j]) tNil)) (tD K (.bool true)) := by
  have z := gv_cb1 (gv_lc (K := K) (ds := (List.replicate n true).map .bool) hi (by simp) hz fun i d hd => by
    rw [List.getElem?_map] at hd
    cases e : (List.replicate n true)[i]? with
    | none => rw [e] at hd; cases hd
    | some b =>
      rw [e] at hd
      cases hd
      rw [rep_get e]
      exact he i (by
        have := (List.getElem?_eq_some_iff.mp e).1
        rw [List.length_replicate] at this
        exact this)) (gc_all (K := K))
  have e : (List.replicate n true).all id = true := by
    rw [List.all_eq_true]
    intro x hx
    rw [List.eq_of_mem_replicate hx]
    rfl
  rw [e] at z
  exact z
end
end RP
set_option maxHeartbeats 4000000
namespace RP
open PySem PySem.Spec PyProof.Rows L2
section
variable {P : Program} {w : World} {K : PySem.W.Frag} {mg : Str → Option Value} {base : Heap} {Γ : Ctx} {ta tb tc td te tf' : TE}
theorem sc_is_stand : FnScope ["talk", "thing", "most", "wait", "one", "number", "coming", "got", "kept", "played", "going"] ["talk", "thing", "most", "wait"] (defScope s_is_stand) := ⟨rfl, rfl, rfl, by decide +kernel, rfl, by decide +kernel, by decide +kernel⟩
inductive Th where
  | st (s : Sd)
  | int (i : Int)
def Th.d : Th → PyData
  | .st s => dSd s
  | .int i => .int i
def Th.b : Th → Bool
  | .st _ => true
  | .int _ => false
structure Is where
  t : Tk
  o : Op
  h : Th
def spStand (K : PySem.W.Frag) : Sp := spP (fun i : Is => TOk i.t ∧ OOk i.t i.o ∧ ∀ s, i.h = .st s → SOk i.t i.o s) (fun i => [tTalk K i.t, tD K i.h.d, tD K (.int i.o.mst), tD K (.int i.o.wai)]) (fun i => tD K (.bool i.h.b))
theorem cut_take {ds : List PyData} {n : Nat} : cutD ds none (some (n : Int)) = ds.take n := by
  unfold cutD
  rw [HT.sIx_none, HT.sIx_nat, Nat.sub_zero, List.drop_zero, ← List.take_eq_take_min]
theorem ck_is_stand (T : Txt K mg) : CalK P w K mg base "is_stand" 3 2 ["most", "wait"] gApp (spStand K) := by
  obtain ⟨fd, F⟩ := T.d_is_stand
  obtain ⟨mv, B⟩ := F.kbinds0 (ps := ["talk", "thing", "most", "wait"]) 2 ["most", "wait"] [] (fun us _ ws => us ++ ws) (fun h => nomatch h) (fun _ h => nomatch h) (fun r _ q => r.append q)
    (fun D doc pm an cdv ct us mv ws h1 h2 h3 => match us, ws, h1, h3 with | [_, _], [_, _], _, _ => rfl)
  refine ⟨_, fd, _, _, ?_, T.g_is_stand, F.kp, B⟩
  refine pure_ok F sc_is_stand (fun _ => rfl) fun cdv A outer s H E i hr c => ⟨_, (pss_cons (ps_expr (pe_cal (c_look_room T) hr (by decide) rfl (pa_cons (pv 0) (pa_cons (pv 2) pa_nil)))) (pss_cons (ps_if (PW.pt (pw_or (pt_not (pt_val (pe_callB (id := "isinstance") (r := rIsi K) call_isi (by rfl) T.f_isinstance (by decide +kernel) (pa_cons (pv 1) (pa_cons (pe_bltn (v := .ty "tuple") rfl T.f_tuple (by decide +kernel) rfl) pa_nil))))) (pw_or (pt_cmpR op_ne (pe_callB (id := "len") (r := rLn K) call_len_seq (by rfl) T.f_len (by decide +kernel) (pa_cons (pv 1) pa_nil)) (pe_callB (id := "len") (r := rLn K) call_len_seq (by rfl) T.f_len (by decide +kernel) (pa_cons (pe_glob (v := .ref (He.ga K "FIRST")) rfl T.g_FIRST rfl) pa_nil)) (nomark _)) (pw_or1 (pt_not (pt_val (pe_callB (id := "all") (r := rAll K) (cr_all (by rfl)) (by rfl) T.f_all (by decide +kernel) (pa_cons (pe_lc (own := [("one", 4)]) (g := gName 4) (tt := tYes) (by rfl) sc_is_stand.nd (pi_tup (pv 1)) (blkOk_by (own := [("one", 4)]) (N := ["talk", "thing", "most", "wait", "one", "number", "coming", "got", "kept", "played", "going"]) (sc := defScope s_is_stand) (by decide +kernel)) (fun _ _ _ _ _ => pg_name (i := 4) sc_is_stand.nd rfl (Or.inl rfl)) (fun _ _ _ _ _ => pts_nil) (fun _ _ _ _ _ => (pe_cal (c_is_whole_stands T) hr (by decide) rfl (pa_cons (pv 4) pa_nil)))) pa_nil)))))))) (pss_one (ps_ret pe_bl)) pss_nil) (pss_cons (ps_asg (pv 1) (pg_tup rfl (pgs_cons (pg_name (i := 5) sc_is_stand.nd rfl (Or.inl rfl)) (pgs_cons (pg_name (i := 6) sc_is_stand.nd rfl (Or.inl rfl)) (pgs_cons (pg_name (i := 7) sc_is_stand.nd rfl (Or.inl rfl)) (pgs_cons (pg_name (i := 8) sc_is_stand.nd rfl (Or.inl rfl)) (pgs_cons (pg_name (i := 9) sc_is_stand.nd rfl (Or.inl rfl)) (pgs_cons (pg_name (i := 10) sc_is_stand.nd rfl (Or.inl rfl)) pgs_nil)))))))) (pss_cons (ps_if (PW.pt (pw_or (pt_not (pt_chain op_le op_le pe_int (pv 5) (pe_callB (id := "len") (r := rLn K) call_len_seq (by rfl) T.f_len (by decide +kernel) (pa_cons (pe_fld (pv 0) rfl) pa_nil)))) (pw_or (pt_not (pt_chain op_le op_le pe_int (pv 8) (pv 2))) (pw_or1 (pt_cmpR op_lt (pv 9) pe_int (nomark _)))))) (pss_one (ps_ret pe_bl)) pss_nil) (pss_cons (ps_if (PW.pt (pw_or (pt_cmpR op_ne (pe_op op_add (pv 8) (pv 9)) (pe_callB (id := "sum") (r := rSumT K) (cr_sumT (by rfl)) (by rfl) T.f_sum (by decide +kernel) (pa_cons (pe_slice (r := rSlA K) sl_tupA (pe_fld (pv 0) rfl) po_none (po_some (pv 5))) pa_nil)) (nomark _)) (pw_or1 (pt_not (pt_val (pe_cal (c_is_coming T) hr (by decide) rfl (pa_cons (pv 0) (pa_cons (pv 5) (pa_cons (pv 6) (pa_cons (pv 7) (pa_cons (pv 3) pa_nil))))))))))) (pss_one (ps_ret pe_bl)) pss_nil) (pss_one (ps_ret (pe_ifExp (pt_cmpR op_eq (pv 9) pe_int (nomark _)) (pe_cmpR op_eq (pv 10) (pe_glob (v := .int (0)) rfl T.i_AHEAD.choose_spec ⟨_, rfl⟩) (nomark _)) (pe_cmpR (r := rIn K false) op_in_seq (pv 10) (pe_tup (pa_cons (pe_glob (v := .int (1)) rfl T.i_PLAYS.choose_spec ⟨_, rfl⟩) (pa_cons (pe_glob (v := .int (2)) rfl T.i_STALLS.choose_spec ⟨_, rfl⟩) pa_nil))) (by with_unfolding_all rfl)))))))))), fun M D r nn => ?_⟩
  try dsimp only [Cx.nox, cxOf, ent, List.map, List.length_cons, List.length_nil, List.replicate_succ, List.replicate_zero, List.cons_append, List.nil_append, List.set]
  obtain ⟨t, o, th⟩ := i
  obtain ⟨tk, ok, sk⟩ : TOk t ∧ OOk t o ∧ ∀ s, th = .st s → SOk t o s := c
  refine q_drop (r_look_room (gv_var rfl) (gv_var rfl) (Nat.le_trans tk.len6 (by decide)) ok.m) ?_
  cases th with
  | int i =>
    refine q_when (b := true) ((gb_or (gb_not (gb_b (gv_isi (d := .int i) (gv_var rfl) kb_it))) (c := true) fun h => (nomatch h)).eq rfl) (fun _ => go_retD r gv_bl rfl) (fun h => nomatch h)
  | st s' =>
    have sk := sk s' rfl
    have first : ∀ {G : Ctx}, Gv G (tC (.ref (He.ga K "FIRST"))) (tD K (dSd sd0)) := gv_c fun H => .tup (He.tupB_ok T.ex.first H) (.cons (.int _) (.cons (.int _) (.cons (.int _) (.cons (.int _) (.cons (.int _) (.cons (.int _) .nil))))))
    refine q_when (b := false) (Gb.eq (gb_or (gb_not (gb_b (gv_isi (d := dSd s') (gv_var rfl) kb_tt))) fun _ => gb_or (gb_val (gv_neI (gv_cb1 (gv_var rfl) (gc_len (ds := [.int s'.n, .int s'.c, .int s'.g, .int s'.k, .int s'.p, .int s'.w]))) (gv_cb1 first gc_len))) fun _ =>
      gb_not (gb_b (gv_allTrue (gi_ints (ns := [(s'.n : Int), s'.c, s'.g, s'.k, s'.p, s'.w]) (gv_var rfl)) (Nat.le_of_ble_eq_true rfl) fun i _ => r_is_whole (gv_var rfl)))) rfl) (fun h => by cases h) (fun _ => ?_)
    refine q_asg (gv_var rfl) (gt_tup (ds := [.int s'.n, .int s'.c, .int s'.g, .int s'.k, .int s'.p, .int s'.w]) (gts_cons gt_name (gts_cons gt_name (gts_cons gt_name (gts_cons gt_name (gts_cons gt_name (gts_cons gt_name gts_nil)))))) rfl) ?_
    have n0 := sk.n
    have k0 := sk.k0
    have km := sk.km
    have p0 := sk.p0
    refine q_when (b := false) (Gb.eq (gb_or (gb_not (gb_val (gv_chain0 gv_int (gv_var rfl) fun _ => gv_lens T (t := t) (gv_var rfl)))) fun _ => gb_or (gb_not (gb_val (gv_chain0 gv_int (gv_var rfl) fun _ => gv_var rfl))) fun _ => gb_val (gv_b0 (gv_var rfl) gv_int)) ?_) (fun h => by cases h) (fun _ => ?_)
    · show (!(decide ((0 : Int) ≤ (s'.n : Int)) && decide ((s'.n : Int) ≤ (t.N : Int))) || (!(decide ((0 : Int) ≤ s'.k) && decide (s'.k ≤ o.mst)) || decide (s'.p < 0))) = false
      rw [decide_eq_true (show (0 : Int) ≤ (s'.n : Int) by omega), decide_eq_true (show (s'.n : Int) ≤ (t.N : Int) by omega), decide_eq_true k0, decide_eq_true km, decide_eq_false (by omega)]
      rfl
    have hs : ∀ {G : Ctx} {u1 u2 : TE}, Gv G u1 (tTalk K t) → Gv G u2 (tD K (.int s'.n)) → Gv G (tCB (rSumT K) (tCons (tSl (rSlA K) (tFld K u1 "lengths") tNoPart (tPart u2)) tNil)) (tD K (.int (t.len.take s'.n).sum)) := fun h1 h2 => by
      have z := gv_slice (gv_Talk_lengths T h1) go1_none (go1_some h2)
      rw [cut_take, ← List.map_take] at z
      exact gv_cb1 z gc_sumT
    refine q_when (b := false) (Gb.eq (gb_or (gb_val (gv_neI (gv_i0 (gv_var rfl) (gv_var rfl)) (hs (gv_var rfl) (gv_var rfl)))) fun _ => gb_not (gb_b (r_is_coming (t := t) (o := o) (s := s') (gv_var rfl) (gv_var rfl) (gv_var rfl) (gv_var rfl) (gv_var rfl) tk sk))) ?_) (fun h => by cases h) (fun _ => ?_)
    · rw [decide_eq_true sk.sum]
      rfl
    refine go_retD r (d := .bool true) (gv_if (gb_val (gv_eqI (gv_var rfl) gv_int)) (fun h => (gv_eqI (gv_var rfl) gv_int).eq ?_) (fun h => (gv_in (ns := [1, 2]) (gv_var rfl) (gv_tupd (gd_cons gv_int (gd_cons gv_int gd_nil)) rfl)).eq ?_)) rfl
    · have e : s'.p = 0 := of_decide_eq_true h
      rcases sk.go with ⟨_, x⟩ | ⟨x, _⟩
      · rw [decide_eq_true x]
      · omega
    · have e : ¬ s'.p = 0 := of_decide_eq_false h
      rcases sk.go with ⟨x, _⟩ | ⟨_, x⟩
      · exact absurd x e
      · rw [decide_eq_true (by simp; omega)]
theorem r_is_stand {t : Tk} {o : Op} {h : Th} (a1 : Gv Γ ta (tTalk K t)) (a2 : Gv Γ tb (tD K h.d)) (a3 : Gv Γ tc (tD K (.int o.mst))) (a4 : Gv Γ td (tD K (.int o.wai))) (c1 : TOk t) (c2 : OOk t o) (c3 : ∀ s, h = .st s → SOk t o s) :
    Gv Γ (tCallN 2 2 (spStand K) gApp E0 (tCons ta (tCons tb tNil)) (tCons tc (tCons td tNil))) (tD K (.bool h.b)) :=
  gv_callN (ι := Is) ⟨t, o, h⟩ (ga_cons a1 (ga_cons a2 ga_nil)) (ga_cons a3 (ga_cons a4 ga_nil)) rfl rfl (fun H vs zs h1 h2 => h1.app h2) ⟨c1, c2, c3⟩
end
end RP
set_option maxHeartbeats 4000000
namespace RP
open PySem PySem.Spec PyProof.Rows L2
/-! ### tuples of any things, lists of data -/
def tT (K : PySem.W.Frag) (Ps : List Ty) : Ty := ⟨fun v H => ∃ a xs, v = .ref a ∧ SqT K H a xs ∧ Pv H Ps xs, fun e h => let ⟨a, xs, h1, h2, h3⟩ := h; ⟨a, xs, h1, im_t (.of e) h2, h3.up e⟩⟩
theorem tT_fx {K : PySem.W.Frag} {Ps : List Ty} (h : ∀ P ∈ Ps, P.Fx) : (tT K Ps).Fx := fun e ⟨a, xs, h1, h2, h3⟩ => ⟨a, xs, h1, im_t e h2, h3.im e h⟩
theorem Pv.get {H : Hp} : ∀ {Ps : List Ty} {vs : List V} {i : Nat} {P : Ty}, Pv H Ps vs → Ps[i]? = some P → ∃ v, vs[i]? = some v ∧ P.p v H
  | _, _, _, _, .nil, e => by simp at e
  | _, _, 0, _, .cons h _, e => by simp at e; subst e; exact ⟨_, rfl, h⟩
  | _, _, i + 1, P, .cons _ t, e => by
    obtain ⟨v, h1, h2⟩ := Pv.get (i := i) (P := P) t (by simpa using e)
    exact ⟨v, by simpa using h1, h2⟩
section
variable {K : PySem.W.Frag} {Γ Γ1 : Ctx} {ta tb te : TE} {ts : TA} {P : Ty} {Ps : List Ty} {gs : TGs}
theorem gv_tupT (h : Ga Γ ts Ps) (hl : Nat.ble Ps.length 16777216 = true) : Gv Γ (tTup ts) (tT K Ps) := fun σ H Q s q =>
  h σ H _ s fun vs H1 e1 h1 => ⟨by rw [h1.len, sizeLine_eq]; exact Nat.le_of_ble_eq_true hl, fun p hp => q _ _ (e1.trans (same_new hp)) ⟨p, vs, rfl, SqT.of upd_same, h1.up (same_new hp)⟩⟩
theorem gv_ixT {j : Nat} {i : Int} (ha : Gv Γ ta (tT K Ps)) (hb : Gv Γ tb (tD K (.int i))) (e : i = (j : Int)) (h : Ps[j]? = some P) : Gv Γ (tOp (rIxT K) ta tb) P := gv_op ha hb fun x y H Q hx hy q => by
  obtain ⟨a, xs, ex, h1, h2⟩ := hx
  obtain ⟨v, h3, h4⟩ := h2.get h
  subst e
  exact ⟨a, xs, _, v, ex, Du.int_inv hy, h1, atI_nat h3, q v H (.refl H) h4⟩
theorem gt_tupT {n : Nat} (h : Gts Γ gs Ps Γ1) (hn : Ps.length = n) : Gt Γ (gTup K n gs) (tT K Ps) Γ1 := fun v σ H Q s hv q => by
  obtain ⟨a, xs, e, h1, h2⟩ := hv
  exact ⟨a, xs, e, h1, h2.len.trans hn, h xs σ H Q s h2 q⟩
theorem gv_lstd {ds : List PyData} (h : Gd K Γ ts ds) (hl : Nat.ble ds.length 16777216 = true) : Gv Γ (tLst ts) (tL K ds) := let ⟨Ps, h1, h2⟩ := h; fun σ H Q s q =>
  h1 σ H _ s fun vs H1 e1 hv => by
    have d := h2.dus hv
    exact ⟨by rw [d.len, sizeLine_eq]; exact Nat.le_of_ble_eq_true hl, fun p hp => q _ _ (e1.trans (same_new hp)) ⟨p, vs, rfl, SqL.of upd_same, d.im (.of (same_new hp))⟩⟩
/-- it is None, or not -/
def Nn (P : Ty) (b : Bool) : Prop := ∀ v H, P.p v H → decide (v = .non) = b
theorem gv_isNT {b : Bool} (ha : Gv Γ ta P) (hn : Nn P b) (hb : Gv Γ tb (tD K .none)) : Gv Γ (tOp (fun x y H Q => y = .non ∧ Q (.bl (decide (x = .non))) H) ta tb) (tD K (.bool b)) := gv_op ha hb fun x y H Q hx hy q => by
  refine ⟨Du.non_inv hy, q _ H (.refl H) ?_⟩
  rw [hn x H hx]
  exact .bl _
theorem tO_nn {C : Addr} {fs : List (Str × Ty)} : Nn (tO C fs) false := fun v H h => by
  obtain ⟨a, dx, us, e, _⟩ := h
  subst e
  rfl
end
section
variable {P : Program} {w : World} {K : PySem.W.Frag} {mg : Str → Option Value} {base : Heap} {Γ : Ctx} {ta tb tc td te tf' : TE}
/-! ### speeds -/
abbrev fSpeed (K : PySem.W.Frag) (q : Int × Int) : List (Str × Ty) := [("bits", tD K (.int q.1)), ("beats", tD K (.int q.2))]
abbrev tSpeed (K : PySem.W.Frag) (q : Int × Int) : Ty := tO (cSpeed K) (fSpeed K q)
theorem tSpeed_fx {q : Int × Int} : (tSpeed K q).Fx := tO_fx (by show (["bits", "beats"] : List Str) ∈ fixed; decide +kernel) fun q hq => by
  simp only [List.mem_cons, List.not_mem_nil, or_false] at hq
  rcases hq with rfl | rfl <;> exact tD_fx
theorem gv_Speed_bits (T : Txt K mg) {q : Int × Int} (h : Gv Γ te (tSpeed K q)) : Gv Γ (tFld K te "bits") (tD K (.int q.1)) := gv_fld h T.c_Speed T.n_Speed_bits (by rfl)
theorem gv_Speed_beats (T : Txt K mg) {q : Int × Int} (h : Gv Γ te (tSpeed K q)) : Gv Γ (tFld K te "beats") (tD K (.int q.2)) := gv_fld h T.c_Speed T.n_Speed_beats (by rfl)
theorem fx2 {A B : Ty} (a : A.Fx) (b : B.Fx) : ∀ P, P ∈ [A, B] → P.Fx := fun P h => by
  simp only [List.mem_cons, List.not_mem_nil, or_false] at h
  rcases h with rfl | rfl
  · exact a
  · exact b
/-- all of a list of things never change -/
inductive AllFx : List Ty → Prop
  | nil : AllFx []
  | cons {P : Ty} {Ps : List Ty} (h : P.Fx) (t : AllFx Ps) : AllFx (P :: Ps)
theorem AllFx.mem : ∀ {Ps : List Ty}, AllFx Ps → ∀ P ∈ Ps, P.Fx
  | _, .nil, _, h => by cases h
  | _, .cons h t, P, hm => by
    rcases List.mem_cons.mp hm with e | hm
    · rw [e]; exact h
    · exact t.mem P hm
theorem AllFx.ctx {N : List Str} {Ps : List Ty} (a : AllFx Ps) : ∀ P, some P ∈ ent N Ps → P.Fx := fun P h => by
  unfold ent at h
  rcases List.mem_append.mp h with h | h
  · obtain ⟨R, hR, e⟩ := List.mem_map.mp h
    cases e
    exact a.mem _ hR
  · exact nomatch (List.mem_replicate.mp h).2
inductive FldFx : List (Str × Ty) → Prop
  | nil : FldFx []
  | cons {f : Str} {P : Ty} {fs : List (Str × Ty)} (h : P.Fx) (t : FldFx fs) : FldFx ((f, P) :: fs)
theorem FldFx.mem : ∀ {fs : List (Str × Ty)}, FldFx fs → ∀ q ∈ fs, q.2.Fx
  | _, .nil, _, h => by cases h
  | _, .cons h t, q, hm => by
    rcases List.mem_cons.mp hm with e | hm
    · rw [e]; exact h
    · exact t.mem q hm
theorem sc_Speed_init : FnScope ["self", "bits", "beats"] ["self", "bits", "beats"] (defScope s_Speed_init) := ⟨rfl, rfl, rfl, by decide +kernel, rfl, by decide +kernel, by decide +kernel⟩
def spSpeed (K : PySem.W.Frag) : Sp := spI (cSpeed K) (fun _ : Int × Int => True) (fun q => [tD K (.int q.1), tD K (.int q.2)]) (fSpeed K)
theorem c_Speed_init (T : Txt K mg) : CalC P w K mg base "Speed" (cSpeed K) 1 (spSpeed K) := by
  obtain ⟨fd, F⟩ := T.d_Speed_init
  refine ⟨_, fd, ["self", "bits", "beats"], ?_, T.g_Speed, T.k_Speed, F.bindsN (fun _ _ _ _ _ _ us hl => match us, hl with | [_, _, _], _ => rfl)⟩
  refine init_ok F sc_Speed_init (fun _ => rfl) fun cdv A outer s H E i hr c => ⟨_, (pss_cons (ps_fld (pv 0) (pv 1) rfl) (pss_one (ps_fld (pv 0) (pv 2) rfl))), fun a dx D k => ?_⟩
  try dsimp only [Cx.nox, cxOf, ent, List.map, List.length_cons, List.length_nil, List.replicate_succ, List.replicate_zero, List.cons_append, List.nil_append, List.set]
  have g : ∀ P, some P ∈ ent ["self", "bits", "beats"] [tV (.ref a), tD K (.int i.1), tD K (.int i.2)] → P.Fx := AllFx.ctx (.cons tV_fx (.cons tD_fx (.cons tD_fx .nil)))
  refine s_fld rfl (gv_var rfl) T.c_Speed T.n_Speed_bits g (FldFx.mem .nil) tD_fx [] rfl (by decide +kernel) ?_
  exact q_fld rfl (gv_var rfl) T.c_Speed T.n_Speed_beats g (FldFx.mem (.cons tD_fx .nil)) tD_fx ["bits"] rfl (by decide +kernel) k
theorem r_Speed {b n : Int} (a1 : Gv Γ ta (tD K (.int b))) (a2 : Gv Γ tb (tD K (.int n))) : Gv Γ (tMake (cSpeed K) (spSpeed K) [] E0 (tCons ta (tCons tb tNil))) (tSpeed K (b, n)) := gv_make (b, n) (ga_cons a1 (ga_cons a2 ga_nil)) rfl trivial
theorem sc_Speed_floor : FnScope ["self"] ["self"] (defScope s_Speed_floor) := ⟨rfl, rfl, rfl, by decide +kernel, rfl, by decide +kernel, by decide +kernel⟩
def SpOk (q : Int × Int) : Prop := 1 ≤ q.2 ∧ q.2 ≤ 1000000
def spFloor (K : PySem.W.Frag) : Sp := spP SpOk (fun q => [tSpeed K q]) (fun q => tD K (.int (q.1.fdiv q.2)))
theorem c_Speed_floor (T : Txt K mg) : CalM P w K mg base (cSpeed K) "floor" 1 (spFloor K) := by
  obtain ⟨fd, F⟩ := T.d_Speed_floor
  refine ⟨_, fd, ["self"], ?_, T.m_Speed_floor, F.bindsN (fun _ _ _ _ _ _ us hl => match us, hl with | [_], _ => rfl)⟩
  refine pure_ok F sc_Speed_floor (fun _ => rfl) fun cdv A outer s H E q hr c => ⟨_, (pss_one (ps_ret (pe_op op_fdivN (pe_fld (pv 0) rfl) (pe_fld (pv 0) rfl)))), fun M D r _ => ?_⟩
  try dsimp only [Cx.nox, cxOf, ent, List.map, List.length_cons, List.length_nil, List.replicate_succ, List.replicate_zero, List.cons_append, List.nil_append, List.set]
  have h1 := c.1
  have h2 := c.2
  exact go_retD r (gv_i1 (gv_Speed_bits T (gv_var rfl)) (gv_Speed_beats T (gv_var rfl)) ⟨by omega, by omega⟩) rfl
theorem r_floor {q : Int × Int} (h : SpOk q) (a1 : Gv Γ ta (tSpeed K q)) : Gv Γ (tMeth (cSpeed K) "floor" (spFloor K) [] E0 ta tNil) (tD K (.int (q.1.fdiv q.2))) := gv_meth q a1 (by rfl) ga_nil rfl h
/-- None, or a speed -/
def tSp (K : PySem.W.Frag) : Option (Int × Int) → Ty
  | none => tD K .none
  | some q => tSpeed K q
theorem tSp_fx : ∀ {q : Option (Int × Int)}, (tSp K q).Fx
  | none => tD_fx
  | some _ => tSpeed_fx
def dO : Option Int → PyData
  | none => .none
  | some i => .int i
structure Sn where
  n : Nat
  k : Int
  r : Option Int
  l : Option (Int × Int)
structure SnOk (N : Nat) (s : Sn) : Prop where
  n : s.n < N
  l : ∀ q, s.l = some q → SpOk q
abbrev snTy (K : PySem.W.Frag) (s : Sn) : List Ty := [tD K (.int s.n), tD K (.int s.k), tD K (dO s.r), tSp K s.l]
abbrev tSn (K : PySem.W.Frag) (s : Sn) : Ty := tT K (snTy K s)
theorem tSn_fx {s : Sn} : (tSn K s).Fx := tT_fx (AllFx.mem (.cons tD_fx (.cons tD_fx (.cons tD_fx (.cons tSp_fx .nil)))))
theorem sc_seen_at : FnScope ["stand", "rate", "speed"] ["stand", "rate", "speed"] (defScope s_seen_at) := ⟨rfl, rfl, rfl, by decide +kernel, rfl, by decide +kernel, by decide +kernel⟩
structure Se where
  s : Sd
  r : Option Int
  l : Option (Int × Int)
def spSeen (K : PySem.W.Frag) : Sp := spP (fun _ : Se => True) (fun i => [tD K (dSd i.s), tD K (dO i.r), tSp K i.l]) (fun i => tSn K ⟨i.s.n, i.s.k, i.r, i.l⟩)
theorem c_seen_at (T : Txt K mg) : Cal P w K mg base "seen_at" 1 [] (spSeen K) := by
  obtain ⟨fd, F⟩ := T.d_seen_at
  refine ⟨_, fd, ["stand", "rate", "speed"], [], ?_, T.g_seen_at, F.kp, F.bindsN (fun _ _ _ _ _ _ us hl => match us, hl with | [_, _, _], _ => rfl), .nil⟩
  refine pure_ok F sc_seen_at (fun _ => rfl) fun cdv A outer s H E i hr c => ⟨_, (pss_one (ps_ret (pe_tup (pa_cons (pe_ix (r := rIxT K) ix_tup (pv 0) pe_int (fun _ _ => rfl)) (pa_cons (pe_ix (r := rIxT K) ix_tup (pv 0) pe_int (fun _ _ => rfl)) (pa_cons (pv 1) (pa_cons (pv 2) pa_nil))))))), fun M D r nn => ?_⟩
  try dsimp only [Cx.nox, cxOf, ent, List.map, List.length_cons, List.length_nil, List.replicate_succ, List.replicate_zero, List.cons_append, List.nil_append, List.set]
  obtain ⟨s', r', l'⟩ := i
  exact go_ret (gv_tupT (ga_cons (gv_ixN (ds := [.int s'.n, .int s'.c, .int s'.g, .int s'.k, .int s'.p, .int s'.w]) (j := 0) (d := .int s'.n) (gv_var rfl) gv_int rfl rfl) (ga_cons (gv_ixN (ds := [.int s'.n, .int s'.c, .int s'.g, .int s'.k, .int s'.p, .int s'.w]) (j := 3) (d := .int s'.k) (gv_var rfl) gv_int rfl rfl) (ga_cons (gv_var rfl) (ga_cons (gv_var rfl) ga_nil)))) rfl) r fun _ _ h => h
theorem r_seen_at {s : Sd} {r : Option Int} {l : Option (Int × Int)} (a1 : Gv Γ ta (tD K (dSd s))) (a2 : Gv Γ tb (tD K (dO r))) (a3 : Gv Γ tc (tSp K l)) : Gv Γ (tCall (spSeen K) [] E0 (tCons ta (tCons tb (tCons tc tNil)))) (tSn K ⟨s.n, s.k, r, l⟩) :=
  gv_call0 (ι := Se) ⟨s, r, l⟩ (ga_cons a1 (ga_cons a2 (ga_cons a3 ga_nil))) rfl trivial
theorem sc_is_rate : FnScope ["talk", "thing"] ["talk", "thing"] (defScope s_is_rate) := ⟨rfl, rfl, rfl, by decide +kernel, rfl, by decide +kernel, by decide +kernel⟩
def isRt (t : Tk) : PyData → Bool
  | .int i => decide (0 ≤ i) && decide (i < (t.W : Int))
  | _ => false
/-- plain data -/
def flatD : PyData → Bool
  | .list _ => false
  | .dict _ => false
  | _ => true
structure Ir where
  t : Tk
  d : PyData
def spIsRate (K : PySem.W.Frag) : Sp := spP (fun i : Ir => TOk i.t ∧ flatD i.d = true) (fun i => [tTalk K i.t, tD K i.d]) (fun i => tD K (.bool (isRt i.t i.d)))
theorem c_is_rate (T : Txt K mg) : Cal P w K mg base "is_rate" 2 [] (spIsRate K) := by
  obtain ⟨fd, F⟩ := T.d_is_rate
  refine ⟨_, fd, ["talk", "thing"], [], ?_, T.g_is_rate, F.kp, F.bindsN (fun _ _ _ _ _ _ us hl => match us, hl with | [_, _], _ => rfl), .nil⟩
  refine pure_ok F sc_is_rate (fun _ => rfl) fun cdv A outer s H E i hr c => ⟨_, (pss_one (ps_ret (pe_and (pe_callB (id := "isinstance") (r := rIsi K) call_isi (by rfl) T.f_isinstance (by decide +kernel) (pa_cons (pv 1) (pa_cons (pe_bltn (v := .ty "int") rfl T.f_int (by decide +kernel) rfl) pa_nil))) (pe_and (pe_not (pe_callB (id := "isinstance") (r := rIsi K) call_isi (by rfl) T.f_isinstance (by decide +kernel) (pa_cons (pv 1) (pa_cons (pe_bltn (v := .ty "bool") rfl T.f_bool (by decide +kernel) rfl) pa_nil)))) (pe_one (pe_chain op_le op_lt pe_int (pv 1) (pe_calM0 (c_Talk_many_rates T) T.c_Talk hr (by decide) (pv 0)))))))), fun M D r nn => ?_⟩
  try dsimp only [Cx.nox, cxOf, ent, List.map, List.length_cons, List.length_nil, List.replicate_succ, List.replicate_zero, List.cons_append, List.nil_append, List.set]
  obtain ⟨t, d⟩ := i
  obtain ⟨tk, fl⟩ : TOk t ∧ flatD d = true := c
  cases d with
  | none => exact go_retD r (gv_and (c := true) (gv_isi (d := .none) (gv_var rfl) kb_ni) fun h => nomatch h) rfl
  | bool b => exact go_retD r (gv_and (gv_isi (d := .bool b) (gv_var rfl) kb_bi) fun _ => gv_and (c := true) (gv_not (gv_isi (d := .bool b) (gv_var rfl) kb_bb)) fun h => nomatch h) rfl
  | int j => exact go_retD r (gv_and (gv_isi (d := .int j) (gv_var rfl) kb_ii) fun _ => gv_and (gv_not (gv_isi (d := .int j) (gv_var rfl) kb_ib)) fun _ => gv_chain0 gv_int (gv_var rfl) fun _ => r_many tk (gv_var rfl)) rfl
  | str x => exact go_retD r (gv_and (c := true) (gv_isi (d := .str x) (gv_var rfl) kb_si) fun h => nomatch h) rfl
  | tuple ds => exact go_retD r (gv_and (c := true) (gv_isi (d := .tuple ds) (gv_var rfl) kb_ti) fun h => nomatch h) rfl
  | list _ => cases fl
  | dict _ => cases fl
theorem r_is_rate {t : Tk} {d : PyData} (a1 : Gv Γ ta (tTalk K t)) (a2 : Gv Γ tb (tD K d)) (c1 : TOk t) (c2 : flatD d = true) : Gv Γ (tCall (spIsRate K) [] E0 (tCons ta (tCons tb tNil))) (tD K (.bool (isRt t d))) := gv_call0 (ι := Ir) ⟨t, d⟩ (ga_cons a1 (ga_cons a2 ga_nil)) rfl ⟨c1, c2⟩
end
end RP
set_option maxHeartbeats 4000000
namespace RP
open PySem PySem.Spec PyProof.Rows L2
section
variable {P : Program} {w : World} {K : PySem.W.Frag} {mg : Str → Option Value} {base : Heap} {Γ : Ctx} {ta tb tc td te tf' : TE}
/-! ### plans and rules -/
inductive Cz where
  | plan (pl : List Int)
  | fn (g : Sn → PyData)
def spCh (K : PySem.W.Frag) (N : Nat) (g : Sn → PyData) : Sp := spP (SnOk N) (fun s => [tSn K s]) (fun s => tD K (g s))
def tCz (P : Program) (w : World) (K : PySem.W.Frag) (mg : Str → Option Value) (base : Heap) (N : Nat) : Cz → Ty
  | .plan pl => tD K (dI pl)
  | .fn g => tF P w K mg base 3 (spCh K N g)
theorem tCz_fx {N : Nat} : ∀ {c : Cz}, (tCz P w K mg base N c).Fx
  | .plan _ => tD_fx
  | .fn _ => tF_fx
def Cz.ok (N : Nat) : Cz → Prop
  | .plan pl => pl.length = N
  | .fn g => ∀ s, flatD (g s) = true
def ofD (t : Tk) : PyData → Int
  | .int i => if 0 ≤ i ∧ i < (t.W : Int) then i else 0
  | _ => 0
def Cz.rt (t : Tk) (c : Cz) (s : Sn) : Int := match c with
  | .plan pl => pl.getD s.n 0
  | .fn g => ofD t (g s)
theorem sc_rate_by : FnScope ["talk", "chooser", "seen", "rate"] ["talk", "chooser", "seen"] (defScope s_rate_by) := ⟨rfl, rfl, rfl, by decide +kernel, rfl, by decide +kernel, by decide +kernel⟩
structure Rb where
  t : Tk
  c : Cz
  s : Sn
def spRate (P : Program) (w : World) (K : PySem.W.Frag) (mg : Str → Option Value) (base : Heap) : Sp := spP (fun i : Rb => TOk i.t ∧ i.c.ok i.t.N ∧ SnOk i.t.N i.s) (fun i => [tTalk K i.t, tCz P w K mg base i.t.N i.c, tSn K i.s]) (fun i => tD K (.int (i.c.rt i.t i.s)))
theorem kb_ft : kitB "function" "tuple" = some false := by decide +kernel
theorem c_rate_by (T : Txt K mg) : Cal P w K mg base "rate_by" 4 [] (spRate P w K mg base) := by
  obtain ⟨fd, F⟩ := T.d_rate_by
  refine ⟨_, fd, ["talk", "chooser", "seen"], [], ?_, T.g_rate_by, F.kp, F.bindsN (fun _ _ _ _ _ _ us hl => match us, hl with | [_, _, _], _ => rfl), .nil⟩
  refine pure_ok F sc_rate_by (fun _ => rfl) fun cdv A outer s H E i hr c => ⟨_, (pss_cons (ps_if (pt_val (pe_callB (id := "isinstance") (callR_or call_isi (call_isiF kb_ft)) (by rfl) T.f_isinstance (by decide +kernel) (pa_cons (pv 1) (pa_cons (pe_bltn (v := .ty "tuple") rfl T.f_tuple (by decide +kernel) rfl) pa_nil)))) (pss_one (ps_ret (pe_ix (r := rIxT K) ix_tup (pv 1) (pe_ix (r := rIxT K) ix_tup (pv 2) pe_int (fun _ _ => rfl)) (fun _ _ => rfl)))) pss_nil) (pss_cons (ps_set (i := 3) sc_rate_by.nd rfl (Or.inl rfl) (pe_clb (k := 3) (i := 1) hr (by decide) rfl (Or.inl rfl) (pa_cons (pv 2) pa_nil))) (pss_one (ps_ret (pe_ifExp (pt_val (pe_cal (c_is_rate T) hr (by decide) rfl (pa_cons (pv 0) (pa_cons (pv 3) pa_nil)))) (pv 3) pe_int))))), fun M D r nn => ?_⟩
  try dsimp only [Cx.nox, cxOf, ent, List.map, List.length_cons, List.length_nil, List.replicate_succ, List.replicate_zero, List.cons_append, List.nil_append, List.set]
  obtain ⟨t, cz, sn⟩ := i
  obtain ⟨tk, co, so⟩ : TOk t ∧ cz.ok t.N ∧ SnOk t.N sn := c
  cases cz with
  | plan pl =>
    have hn : pl[sn.n]? = some (pl.getD sn.n 0) := by
      have : sn.n < pl.length := by rw [show pl.length = t.N from co]; exact so.n
      rw [List.getD_eq_getElem?_getD, List.getElem?_eq_getElem this]
      rfl
    refine q_when (b := true) (gb_b (gv_cb (ga_cons (gv_var rfl) (ga_cons gv_ty ga_nil)) fun vs H Q hv q => .inl (gc_isi (K := K) (d := dI pl) kb_tt vs H Q hv q))) (fun _ => ?_) (fun h => nomatch h)
    exact go_retD r (gv_ixI (ns := pl) (j := sn.n) (gv_var rfl) (gv_ixT (Ps := snTy K sn) (j := 0) (gv_var rfl) gv_int rfl rfl) rfl hn) rfl
  | fn g =>
    refine q_when (b := false) (gb_b (K := K) (gv_cb (P := tD K (.bool false)) (Ps := [tF P w K mg base 3 (spCh K t.N g), tV (.ty "tuple")]) (ga_cons (gv_var rfl) (ga_cons gv_ty ga_nil)) fun vs H Q hv q => .inr ?_)) (fun h => nomatch h) (fun _ => ?_)
    · obtain ⟨v, u, e, h1, h2⟩ := hv.two
      obtain ⟨f, ev, hf⟩ := h1
      subst e ev
      cases h2
      exact ⟨f, rfl, fun h X o => let ⟨_, _, _, hg⟩ := hf.fn H h (.refl H) X o; ⟨_, hg, rfl⟩, q _ H (.refl H) (.bl _)⟩
    · refine q_set (gv_clb (C := SnOk t.N) (Ps := fun s => [tSn K s]) (R := fun s => tD K (g s)) sn rfl (ga_cons (gv_var rfl) ga_nil) so) ?_
      have fl := co sn
      show Go M _ D _
      refine go_retD r (d := .int (ofD t (g sn))) (gv_if (gb_b (r_is_rate (t := t) (d := g sn) (gv_var rfl) (gv_var rfl) tk fl)) (fun h => ?_) (fun h => ?_)) rfl
      · generalize g sn = d at h ⊢
        cases d with
        | int i =>
          have : 0 ≤ i ∧ i < (t.W : Int) := by
            have z : (decide (0 ≤ i) && decide (i < (t.W : Int))) = true := h
            simpa using z
          have e : ofD t (.int i) = i := by exact if_pos this
          rw [e]
          exact gv_var rfl
        | none => cases h
        | bool _ => cases h
        | str _ => cases h
        | tuple _ => cases h
        | list _ => cases h
        | dict _ => cases h
      · have e : ofD t (g sn) = 0 := by
          generalize g sn = d at h ⊢
          cases d with
          | int i =>
            have : ¬ (0 ≤ i ∧ i < (t.W : Int)) := by
              have z : (decide (0 ≤ i) && decide (i < (t.W : Int))) = false := h
              simpa using z
            exact if_neg this
          | _ => rfl
        rw [e]
        exact gv_int
theorem r_rate_by {t : Tk} {c : Cz} {s : Sn} (a1 : Gv Γ ta (tTalk K t)) (a2 : Gv Γ tb (tCz P w K mg base t.N c)) (a3 : Gv Γ tc (tSn K s)) (c1 : TOk t) (c2 : c.ok t.N) (c3 : SnOk t.N s) :
    Gv Γ (tCall (spRate P w K mg base) [] E0 (tCons ta (tCons tb (tCons tc tNil)))) (tD K (.int (c.rt t s))) := gv_call0 (ι := Rb) ⟨t, c, s⟩ (ga_cons a1 (ga_cons a2 (ga_cons a3 ga_nil))) rfl ⟨c1, c2, c3⟩
end
end RP
set_option maxHeartbeats 4000000
namespace RP
open PySem PySem.Spec PyProof.Rows L2
section
variable {P : Program} {w : World} {K : PySem.W.Frag} {mg : Str → Option Value} {base : Heap} {Γ : Ctx} {ta tb tc td te tf' : TE}
/-! ### guards -/
structure Gu where
  t : Tk
  o : Op
  kd : Kd
  c : Cz
abbrev dKd (kd : Kd) : PyData := .tuple [.int kd.slow, .int kd.fast, .int kd.many, .int (kd.wide : Nat)]
abbrev fGuard (P : Program) (w : World) (K : PySem.W.Frag) (mg : Str → Option Value) (base : Heap) (g : Gu) : List (Str × Ty) :=
  [("talk_told", tTalk K g.t), ("chooser_told", tCz P w K mg base g.t.N g.c), ("slow", tD K (.int g.kd.slow)), ("fast", tD K (.int g.kd.fast)), ("many_slow", tD K (.int g.kd.many)), ("wide", tD K (.int (g.kd.wide : Nat))), ("limits", tD K (.tuple [.int g.o.beg, .int g.o.aga, .int g.o.mst])), ("waiting", tD K (.int g.o.wai))]
abbrev tGuard (P : Program) (w : World) (K : PySem.W.Frag) (mg : Str → Option Value) (base : Heap) (g : Gu) : Ty := tO (cGuard K) (fGuard P w K mg base g)
theorem tGuard_fx {g : Gu} : (tGuard P w K mg base g).Fx := tO_fx (by show (["talk_told", "chooser_told", "slow", "fast", "many_slow", "wide", "limits", "waiting"] : List Str) ∈ fixed; decide +kernel)
  (FldFx.mem (.cons tTalk_fx (.cons tCz_fx (.cons tD_fx (.cons tD_fx (.cons tD_fx (.cons tD_fx (.cons tD_fx (.cons tD_fx .nil)))))))))
structure GOk (g : Gu) : Prop where
  t : TOk g.t
  o : OOk g.t g.o
  k : KOk g.kd
  c : g.c.ok g.t.N
def Gu.ch (g : Gu) : Ch := fun n k r l => g.c.rt g.t ⟨n, k, r, l⟩
theorem sc_Guard_init : FnScope ["self", "talk", "chooser", "kind", "begin", "again", "most", "wait"] ["self", "talk", "chooser", "kind", "begin", "again", "most", "wait"] (defScope s_Guard_init) := ⟨rfl, rfl, rfl, by decide +kernel, rfl, by decide +kernel, by decide +kernel⟩
def spGuard (P : Program) (w : World) (K : PySem.W.Frag) (mg : Str → Option Value) (base : Heap) : Sp := spI (cGuard K) (fun g : Gu => TOk g.t ∧ OOk g.t g.o)
  (fun g => [tTalk K g.t, tCz P w K mg base g.t.N g.c, tD K (dKd g.kd), tD K (.int g.o.beg), tD K (.int g.o.aga), tD K (.int g.o.mst), tD K (.int g.o.wai)]) (fGuard P w K mg base)
abbrev kwO : List Str := ["begin", "again", "most", "wait"]
theorem c_Guard_init (T : Txt K mg) : CalCK P w K mg base "Guard" (cGuard K) 2 3 kwO gApp (spGuard P w K mg base) := by
  obtain ⟨fd, F⟩ := T.d_Guard_init
  obtain ⟨mv, B⟩ := F.kbinds0 (ps := ["self", "talk", "chooser", "kind", "begin", "again", "most", "wait"]) 4 kwO [] (fun us _ ws => us ++ ws) (fun h => nomatch h) (fun _ h => nomatch h) (fun r _ q => r.append q)
    (fun D doc pm an cdv ct us mv ws h1 h2 h3 => match us, ws, h1, h3 with | [_, _, _, _], [_, _, _, _], _, _ => rfl)
  refine ⟨_, fd, _, _, ?_, T.g_Guard, T.k_Guard, B⟩
  refine init_ok F sc_Guard_init (fun _ => rfl) fun cdv A outer s H E i hr c => ⟨_, (pss_cons (ps_expr (pe_cal (c_look_room T) hr (by decide) rfl (pa_cons (pv 1) (pa_cons (pv 6) pa_nil)))) (pss_cons (ps_fld (pv 0) (pv 1) rfl) (pss_cons (ps_fld (pv 0) (pv 2) rfl) (pss_cons (ps_asg (pv 3) (pg_tup rfl (pgs_cons (pg_fld (pv 0)) (pgs_cons (pg_fld (pv 0)) (pgs_cons (pg_fld (pv 0)) (pgs_cons (pg_fld (pv 0)) pgs_nil)))))) (pss_cons (ps_fld (pv 0) (pe_tup (pa_cons (pv 4) (pa_cons (pv 5) (pa_cons (pv 6) pa_nil)))) rfl) (pss_one (ps_fld (pv 0) (pv 7) rfl))))))), fun a dx D k => ?_⟩
  try dsimp only [Cx.nox, cxOf, ent, List.map, List.length_cons, List.length_nil, List.replicate_succ, List.replicate_zero, List.cons_append, List.nil_append, List.set]
  have g : ∀ P', some P' ∈ ent ["self", "talk", "chooser", "kind", "begin", "again", "most", "wait"] [tV (.ref a), tTalk K i.t, tCz P w K mg base i.t.N i.c, tD K (dKd i.kd), tD K (.int i.o.beg), tD K (.int i.o.aga), tD K (.int i.o.mst), tD K (.int i.o.wai)] → P'.Fx :=
    AllFx.ctx (.cons tV_fx (.cons tTalk_fx (.cons tCz_fx (.cons tD_fx (.cons tD_fx (.cons tD_fx (.cons tD_fx (.cons tD_fx .nil))))))))
  refine q_drop (r_look_room (gv_var rfl) (gv_var rfl) (Nat.le_trans c.1.len6 (by decide)) c.2.m) ?_
  refine s_fld rfl (gv_var rfl) T.c_Guard T.n_Guard_talk_told g (FldFx.mem .nil) tTalk_fx [] rfl (by decide +kernel) ?_
  refine s_fld rfl (gv_var rfl) T.c_Guard T.n_Guard_chooser_told g (FldFx.mem (.cons tTalk_fx .nil)) tCz_fx ["talk_told"] rfl (by decide +kernel) ?_
  have x2 : FldFx [("talk_told", tTalk K i.t), ("chooser_told", tCz P w K mg base i.t.N i.c)] := .cons tTalk_fx (.cons tCz_fx .nil)
  have x3 : FldFx [("talk_told", tTalk K i.t), ("chooser_told", tCz P w K mg base i.t.N i.c), ("slow", tD K (.int i.kd.slow))] := .cons tTalk_fx (.cons tCz_fx (.cons tD_fx .nil))
  have x4 : FldFx [("talk_told", tTalk K i.t), ("chooser_told", tCz P w K mg base i.t.N i.c), ("slow", tD K (.int i.kd.slow)), ("fast", tD K (.int i.kd.fast))] := .cons tTalk_fx (.cons tCz_fx (.cons tD_fx (.cons tD_fx .nil)))
  have x5 : FldFx [("talk_told", tTalk K i.t), ("chooser_told", tCz P w K mg base i.t.N i.c), ("slow", tD K (.int i.kd.slow)), ("fast", tD K (.int i.kd.fast)), ("many_slow", tD K (.int i.kd.many))] := .cons tTalk_fx (.cons tCz_fx (.cons tD_fx (.cons tD_fx (.cons tD_fx .nil))))
  have x6 : FldFx [("talk_told", tTalk K i.t), ("chooser_told", tCz P w K mg base i.t.N i.c), ("slow", tD K (.int i.kd.slow)), ("fast", tD K (.int i.kd.fast)), ("many_slow", tD K (.int i.kd.many)), ("wide", tD K (.int (i.kd.wide : Nat)))] := .cons tTalk_fx (.cons tCz_fx (.cons tD_fx (.cons tD_fx (.cons tD_fx (.cons tD_fx .nil)))))
  have x7 : FldFx [("talk_told", tTalk K i.t), ("chooser_told", tCz P w K mg base i.t.N i.c), ("slow", tD K (.int i.kd.slow)), ("fast", tD K (.int i.kd.fast)), ("many_slow", tD K (.int i.kd.many)), ("wide", tD K (.int (i.kd.wide : Nat))), ("limits", tD K (.tuple [.int i.o.beg, .int i.o.aga, .int i.o.mst]))] := .cons tTalk_fx (.cons tCz_fx (.cons tD_fx (.cons tD_fx (.cons tD_fx (.cons tD_fx (.cons tD_fx .nil))))))
  refine s_flds (ds := [.int i.kd.slow, .int i.kd.fast, .int i.kd.many, .int (i.kd.wide : Nat)]) (gv_var rfl) rfl (gms_cons rfl T.c_Guard T.n_Guard_slow g x2.mem (AllFx.mem (.cons tD_fx (.cons tD_fx (.cons tD_fx (.cons tD_fx .nil))))) ["talk_told", "chooser_told"] rfl (by decide +kernel)
    (gms_cons rfl T.c_Guard T.n_Guard_fast g x3.mem (AllFx.mem (.cons tD_fx (.cons tD_fx (.cons tD_fx .nil)))) ["talk_told", "chooser_told", "slow"] rfl (by decide +kernel) (gms_cons rfl T.c_Guard T.n_Guard_many_slow g x4.mem (AllFx.mem (.cons tD_fx (.cons tD_fx .nil))) ["talk_told", "chooser_told", "slow", "fast"] rfl (by decide +kernel)
    (gms_cons rfl T.c_Guard T.n_Guard_wide g x5.mem (AllFx.mem (.cons tD_fx .nil)) ["talk_told", "chooser_told", "slow", "fast", "many_slow"] rfl (by decide +kernel) gms_nil)))) ?_
  refine s_fld rfl (gv_tupd (gd_cons (gv_var rfl) (gd_cons (gv_var rfl) (gd_cons (gv_var rfl) gd_nil))) rfl) T.c_Guard T.n_Guard_limits g x6.mem tD_fx ["talk_told", "chooser_told", "slow", "fast", "many_slow", "wide"] rfl (by decide +kernel) ?_
  exact q_fld rfl (gv_var rfl) T.c_Guard T.n_Guard_waiting g x7.mem tD_fx ["talk_told", "chooser_told", "slow", "fast", "many_slow", "wide", "limits"] rfl (by decide +kernel) k
section
variable {g : Gu}
theorem gv_G_talk (T : Txt K mg) (h : Gv Γ te (tGuard P w K mg base g)) : Gv Γ (tFld K te "talk_told") (tTalk K g.t) := gv_fld h T.c_Guard T.n_Guard_talk_told (by rfl)
theorem gv_G_chooser (T : Txt K mg) (h : Gv Γ te (tGuard P w K mg base g)) : Gv Γ (tFld K te "chooser_told") (tCz P w K mg base g.t.N g.c) := gv_fld h T.c_Guard T.n_Guard_chooser_told (by rfl)
theorem gv_G_slow (T : Txt K mg) (h : Gv Γ te (tGuard P w K mg base g)) : Gv Γ (tFld K te "slow") (tD K (.int g.kd.slow)) := gv_fld h T.c_Guard T.n_Guard_slow (by rfl)
theorem gv_G_fast (T : Txt K mg) (h : Gv Γ te (tGuard P w K mg base g)) : Gv Γ (tFld K te "fast") (tD K (.int g.kd.fast)) := gv_fld h T.c_Guard T.n_Guard_fast (by rfl)
theorem gv_G_many (T : Txt K mg) (h : Gv Γ te (tGuard P w K mg base g)) : Gv Γ (tFld K te "many_slow") (tD K (.int g.kd.many)) := gv_fld h T.c_Guard T.n_Guard_many_slow (by rfl)
theorem gv_G_wide (T : Txt K mg) (h : Gv Γ te (tGuard P w K mg base g)) : Gv Γ (tFld K te "wide") (tD K (.int (g.kd.wide : Nat))) := gv_fld h T.c_Guard T.n_Guard_wide (by rfl)
theorem gv_G_limits (T : Txt K mg) (h : Gv Γ te (tGuard P w K mg base g)) : Gv Γ (tFld K te "limits") (tD K (.tuple [.int g.o.beg, .int g.o.aga, .int g.o.mst])) := gv_fld h T.c_Guard T.n_Guard_limits (by rfl)
theorem gv_G_wait (T : Txt K mg) (h : Gv Γ te (tGuard P w K mg base g)) : Gv Γ (tFld K te "waiting") (tD K (.int g.o.wai)) := gv_fld h T.c_Guard T.n_Guard_waiting (by rfl)
end
def dLa : Option (Int × Int) → PyData
  | none => .tuple []
  | some q => .tuple [.int q.1, .int q.2]
theorem sc_Guard_choice_at : FnScope ["self", "stand", "rate", "last", "speed"] ["self", "stand", "rate", "last"] (defScope s_Guard_choice_at) := ⟨rfl, rfl, rfl, by decide +kernel, rfl, by decide +kernel, by decide +kernel⟩
structure Ca where
  g : Gu
  s : Sd
  r : Option Int
  l : Option (Int × Int)
def spChoice (P : Program) (w : World) (K : PySem.W.Frag) (mg : Str → Option Value) (base : Heap) : Sp := spP (fun i : Ca => TOk i.g.t ∧ i.g.c.ok i.g.t.N ∧ i.s.n < i.g.t.N ∧ ∀ q, i.l = some q → SpOk q) (fun i => [tGuard P w K mg base i.g, tD K (dSd i.s), tD K (dO i.r), tD K (dLa i.l)]) (fun i => tD K (.int (i.g.ch i.s.n i.s.k i.r i.l)))
theorem c_Guard_choice_at (T : Txt K mg) : CalM P w K mg base (cGuard K) "choice_at" 5 (spChoice P w K mg base) := by
  obtain ⟨fd, F⟩ := T.d_Guard_choice_at
  refine ⟨_, fd, ["self", "stand", "rate", "last"], ?_, T.m_Guard_choice_at, F.bindsN (fun _ _ _ _ _ _ us hl => match us, hl with | [_, _, _, _], _ => rfl)⟩
  refine pure_ok F sc_Guard_choice_at (fun _ => rfl) fun cdv A outer s H E i hr c => ⟨_, (pss_cons (ps_set (i := 4) sc_Guard_choice_at.nd rfl (Or.inl rfl) (pe_ifExp (pt_cmpR (r := rEqD K) (op_eqD hr.units) (pv 3) (pe_tup pa_nil) (nomark _)) pe_non (pe_calC (c_Speed_init T) hr (by decide) rfl (pa_cons (pe_ix (r := rIxT K) ix_tup (pv 3) pe_int (fun _ _ => rfl)) (pa_cons (pe_ix (r := rIxT K) ix_tup (pv 3) pe_int (fun _ _ => rfl)) pa_nil))))) (pss_one (ps_ret (pe_cal (c_rate_by T) hr (by decide) rfl (pa_cons (pe_fld (pv 0) rfl) (pa_cons (pe_fld (pv 0) rfl) (pa_cons (pe_cal (c_seen_at T) hr (by decide) rfl (pa_cons (pv 1) (pa_cons (pv 2) (pa_cons (pv 4) pa_nil)))) pa_nil))))))), fun M D r nn => ?_⟩
  try dsimp only [Cx.nox, cxOf, ent, List.map, List.length_cons, List.length_nil, List.replicate_succ, List.replicate_zero, List.cons_append, List.nil_append, List.set]
  obtain ⟨g, s', r', l'⟩ := i
  obtain ⟨tk, co, sn, so⟩ : TOk g.t ∧ g.c.ok g.t.N ∧ s'.n < g.t.N ∧ ∀ q, l' = some q → SpOk q := c
  have e : PyData.eqv (dLa l') (.tuple []) = l'.isNone := by
    cases l' with
    | none => rfl
    | some q => rfl
  have hs : SeqAt.shaped (dLa l') = true := by
    cases l' with
    | none => rfl
    | some q => rfl
  refine q_set (P := tSp K l') (gv_if (b := l'.isNone) (gb_val (Gv.eq (gv_eqD (gv_var rfl) (gv_tupd gd_nil rfl) hs rfl) (by rw [e]))) (fun h => ?_) (fun h => ?_)) ?_
  · cases l' with
    | none => exact gv_non
    | some q => cases h
  · cases l' with
    | none => cases h
    | some q => exact r_Speed (gv_ixN (ds := [.int q.1, .int q.2]) (j := 0) (d := .int q.1) (gv_var rfl) gv_int rfl rfl) (gv_ixN (ds := [.int q.1, .int q.2]) (j := 1) (d := .int q.2) (gv_var rfl) gv_int rfl rfl)
  · exact go_retD r (r_rate_by (s := ⟨s'.n, s'.k, r', l'⟩) (gv_G_talk T (gv_var rfl)) (gv_G_chooser T (gv_var rfl)) (r_seen_at (gv_var rfl) (gv_var rfl) (gv_var rfl)) tk co ⟨sn, so⟩) rfl
theorem r_choice_at {g : Gu} {s : Sd} {r : Option Int} {l : Option (Int × Int)} (a0 : Gv Γ ta (tGuard P w K mg base g)) (a1 : Gv Γ tb (tD K (dSd s))) (a2 : Gv Γ tc (tD K (dO r))) (a3 : Gv Γ td (tD K (dLa l))) (c1 : TOk g.t) (c2 : g.c.ok g.t.N) (c3 : s.n < g.t.N) (c4 : ∀ q, l = some q → SpOk q) :
    Gv Γ (tMeth (cGuard K) "choice_at" (spChoice P w K mg base) [] E0 ta (tCons tb (tCons tc (tCons td tNil)))) (tD K (.int (g.ch s.n s.k r l))) := gv_meth (ι := Ca) ⟨g, s, r, l⟩ a0 (by rfl) (ga_cons a1 (ga_cons a2 (ga_cons a3 ga_nil))) rfl ⟨c1, c2, c3, c4⟩
abbrev dWt (x : Wt) : PyData := .tuple [dSd x.s, .int x.r, dLa x.la, .int x.we, dI x.pa]
theorem sc_Guard_first_watch : FnScope ["self", "stand", "rate"] ["self"] (defScope s_Guard_first_watch) := ⟨rfl, rfl, rfl, by decide +kernel, rfl, by decide +kernel, by decide +kernel⟩
def spFirstW (P : Program) (w : World) (K : PySem.W.Frag) (mg : Str → Option Value) (base : Heap) : Sp := spP GOk (fun g => [tGuard P w K mg base g]) (fun g => tD K (dWt (wt0 g.o g.ch g.kd)))
theorem c_Guard_first_watch (T : Txt K mg) : CalM P w K mg base (cGuard K) "first_watch" 6 (spFirstW P w K mg base) := by
  obtain ⟨fd, F⟩ := T.d_Guard_first_watch
  refine ⟨_, fd, ["self"], ?_, T.m_Guard_first_watch, F.bindsN (fun _ _ _ _ _ _ us hl => match us, hl with | [_], _ => rfl)⟩
  refine pure_ok F sc_Guard_first_watch (fun _ => rfl) fun cdv A outer s H E g hr c => ⟨_, (pss_cons (ps_set (i := 1) sc_Guard_first_watch.nd rfl (Or.inl rfl) (pe_cal0 (c_first_stand T) hr (by decide) rfl)) (pss_cons (ps_set (i := 2) sc_Guard_first_watch.nd rfl (Or.inl rfl) (pe_calM (c_Guard_choice_at T) T.c_Guard hr (by decide) (pv 0) (pa_cons (pv 1) (pa_cons pe_non (pa_cons (pe_tup pa_nil) pa_nil))))) (pss_one (ps_ret (pe_tup (pa_cons (pe_calK (ck_chosen T) hr (by decide) rfl (pa_cons (pv 1) (pa_cons (pv 2) pa_nil)) (pk_cons (pe_fld (pv 0) rfl) pk_nil)) (pa_cons (pv 2) (pa_cons (pe_tup pa_nil) (pa_cons pe_int (pa_cons (pe_op (r := rRep1 K) op_rep1 (pe_tup (pa_cons pe_int pa_nil)) (pe_op op_sub (pe_fld (pv 0) rfl) pe_int)) pa_nil)))))))))), fun M D r nn => ?_⟩
  try dsimp only [Cx.nox, cxOf, ent, List.map, List.length_cons, List.length_nil, List.replicate_succ, List.replicate_zero, List.cons_append, List.nil_append, List.set]
  have w1 : 1 ≤ g.kd.wide := by have := c.k.m0; have := c.k.mw; omega
  have w6 := c.k.w
  refine q_set r_first_stand ?_
  refine q_set (r_choice_at (s := sd0) (r := none) (l := none) (gv_var rfl) (gv_var rfl) gv_non (gv_tupd gd_nil rfl) c.t c.c c.t.pos (fun _ h => nomatch h)) ?_
  refine go_retD r (gv_tupd (gd_cons (r_chosen (gv_var rfl) (gv_var rfl) (gv_G_wait T (gv_var rfl))) (gd_cons (gv_var rfl) (gd_cons (gv_tupd gd_nil rfl) (gd_cons gv_int (gd_cons (gv_rep (gv_tupd (gd_cons gv_int gd_nil) rfl) (gv_i0 (gv_G_wide T (gv_var rfl)) gv_int) ⟨by omega, by omega⟩) gd_nil))))) rfl) ?_
  have e : ((g.kd.wide : Int) - 1).toNat = g.kd.wide - 1 := by omega
  have e2 : dI (wt0 g.o g.ch g.kd).pa = .tuple (List.replicate (g.kd.wide - 1) (.int 0)) := by
    show PyData.tuple ((List.replicate (g.kd.wide - 1) (0 : Int)).map .int) = _
    rw [List.map_replicate]
  rw [e]
  show _ = PyData.tuple [dSd (wt0 g.o g.ch g.kd).s, .int (wt0 g.o g.ch g.kd).r, dLa (wt0 g.o g.ch g.kd).la, .int (wt0 g.o g.ch g.kd).we, dI (wt0 g.o g.ch g.kd).pa]
  rw [e2]
  rfl
theorem r_first_watch {g : Gu} (a : Gv Γ ta (tGuard P w K mg base g)) (c : GOk g) : Gv Γ (tMeth (cGuard K) "first_watch" (spFirstW P w K mg base) [] E0 ta tNil) (tD K (dWt (wt0 g.o g.ch g.kd))) := gv_meth g a (by rfl) ga_nil rfl c
theorem sc_Guard_speeds_let : FnScope ["self", "watch", "others", "past"] ["self", "watch"] (defScope s_Guard_speeds_let) := ⟨rfl, rfl, rfl, by decide +kernel, rfl, by decide +kernel, by decide +kernel⟩
structure Gw where
  g : Gu
  x : Wt
def spSpeeds (P : Program) (w : World) (K : PySem.W.Frag) (mg : Str → Option Value) (base : Heap) : Sp := spP (fun _ : Gw => True) (fun i => [tGuard P w K mg base i.g, tD K (dWt i.x)]) (fun i => tD K (dI (spds i.g.kd i.x)))
theorem c_Guard_speeds_let (T : Txt K mg) : CalM P w K mg base (cGuard K) "speeds_let" 1 (spSpeeds P w K mg base) := by
  obtain ⟨fd, F⟩ := T.d_Guard_speeds_let
  refine ⟨_, fd, ["self", "watch"], ?_, T.m_Guard_speeds_let, F.bindsN (fun _ _ _ _ _ _ us hl => match us, hl with | [_, _], _ => rfl)⟩
  refine pure_ok F sc_Guard_speeds_let (fun _ => rfl) fun cdv A outer s H E i hr c => ⟨_, (pss_cons (ps_asg (pv 1) (pg_star (n := 2) (i := 0) rfl (pgs_star (pg_name (i := 2) sc_Guard_speeds_let.nd rfl (Or.inl rfl)) (pgs_cons (pg_name (i := 3) sc_Guard_speeds_let.nd rfl (Or.inl rfl)) pgs_nil)))) (pss_cons (ps_if (pt_cmpR op_lt (pe_callB (id := "sum") (r := rSumT K) (cr_sumT (by rfl)) (by rfl) T.f_sum (by decide +kernel) (pa_cons (pv 3) pa_nil)) (pe_fld (pv 0) rfl) (nomark _)) (pss_one (ps_ret (pe_tup (pa_cons (pe_fld (pv 0) rfl) (pa_cons (pe_fld (pv 0) rfl) pa_nil))))) pss_nil) (pss_one (ps_ret (pe_tup (pa_cons (pe_fld (pv 0) rfl) pa_nil)))))), fun M D r nn => ?_⟩
  try dsimp only [Cx.nox, cxOf, ent, List.map, List.length_cons, List.length_nil, List.replicate_succ, List.replicate_zero, List.cons_append, List.nil_append, List.set]
  obtain ⟨g, x⟩ := i
  refine q_asg (gv_var rfl) (gt_star (first := []) (mids := [dSd x.s, .int x.r, dLa x.la, .int x.we]) (lasts := [dI x.pa]) (gts_cons gt_name (gts_cons gt_name gts_nil)) rfl rfl (Nat.le_of_ble_eq_true rfl)) ?_
  try dsimp only [List.set]
  refine q_when (gb_val (gv_b0 (gv_cb1 (gv_var rfl) gc_sumT) (gv_G_many T (gv_var rfl)))) (fun h => ?_) (fun h => ?_)
  · refine go_retD r (gv_tupd (gd_cons (gv_G_slow T (gv_var rfl)) (gd_cons (gv_G_fast T (gv_var rfl)) gd_nil)) rfl) ?_
    show _ = dI (spds g.kd x)
    rw [show spds g.kd x = [g.kd.slow, g.kd.fast] from if_pos (of_decide_eq_true h)]
    rfl
  · refine go_retD r (gv_tupd (gd_cons (gv_G_fast T (gv_var rfl)) gd_nil) rfl) ?_
    show _ = dI (spds g.kd x)
    rw [show spds g.kd x = [g.kd.fast] from if_neg (of_decide_eq_false h)]
    rfl
theorem r_speeds_let {g : Gu} {x : Wt} (a : Gv Γ ta (tGuard P w K mg base g)) (b : Gv Γ tb (tD K (dWt x))) : Gv Γ (tMeth (cGuard K) "speeds_let" (spSpeeds P w K mg base) [] E0 ta (tCons tb tNil)) (tD K (dI (spds g.kd x))) := gv_meth (ι := Gw) ⟨g, x⟩ a (by rfl) (ga_cons b ga_nil) rfl trivial
end
end RP
set_option maxHeartbeats 4000000
namespace RP
open PySem PySem.Spec PyProof.Rows L2
section
variable {P : Program} {w : World} {K : PySem.W.Frag} {mg : Str → Option Value} {base : Heap} {Γ : Ctx} {ta tb tc td te tf' : TE}
def dOW : Option Wt → PyData
  | none => .none
  | some x => dWt x
def dLed (q : Bool × Option Wt) : PyData := .tuple [.bool q.1, dOW q.2]
theorem int_if {c : Prop} [Decidable c] : (if (!decide c) = true then (1 : Int) else 0) = if c then 0 else 1 := by
  by_cases h : c
  · simp [h]
  · simp [h]
theorem int_if2 {c : Prop} [Decidable c] : (if decide c = true then (1 : Int) else 0) = if c then 1 else 0 := by
  by_cases h : c
  · simp [h]
  · simp [h]
theorem sc_Guard_led : FnScope ["self", "watch", "speed", "stand", "rate", "last", "went", "past", "number", "coming", "others", "begin", "again", "most", "behind", "stalled", "first", "more"] ["self", "watch", "speed"] (defScope s_Guard_led) := ⟨rfl, rfl, rfl, by decide +kernel, rfl, by decide +kernel, by decide +kernel⟩
structure Gl where
  g : Gu
  x : Wt
  v : Int
structure GlOk (i : Gl) : Prop where
  g : GOk i.g
  x : WtOk i.g.t i.g.o i.g.kd i.x
  b : WtB 1000 i.x
  v : 0 ≤ i.v
def spLed (P : Program) (w : World) (K : PySem.W.Frag) (mg : Str → Option Value) (base : Heap) : Sp := spP GlOk (fun i => [tGuard P w K mg base i.g, tD K (dWt i.x), tD K (.int i.v)]) (fun i => tD K (dLed (led i.g.t i.g.o i.g.ch i.g.kd i.x i.v)))
theorem c_Guard_led (T : Txt K mg) : CalM P w K mg base (cGuard K) "led" 6 (spLed P w K mg base) := by
  obtain ⟨fd, F⟩ := T.d_Guard_led
  refine ⟨_, fd, ["self", "watch", "speed"], ?_, T.m_Guard_led, F.bindsN (fun _ _ _ _ _ _ us hl => match us, hl with | [_, _, _], _ => rfl)⟩
  refine pure_ok F sc_Guard_led (fun _ => rfl) fun cdv A outer s H E i hr c => ⟨_, (pss_cons (ps_asg (pv 1) (pg_tup rfl (pgs_cons (pg_name (i := 3) sc_Guard_led.nd rfl (Or.inl rfl)) (pgs_cons (pg_name (i := 4) sc_Guard_led.nd rfl (Or.inl rfl)) (pgs_cons (pg_name (i := 5) sc_Guard_led.nd rfl (Or.inl rfl)) (pgs_cons (pg_name (i := 6) sc_Guard_led.nd rfl (Or.inl rfl)) (pgs_cons (pg_name (i := 7) sc_Guard_led.nd rfl (Or.inl rfl)) pgs_nil))))))) (pss_cons (ps_asg (pv 3) (pg_star (n := 3) (i := 2) rfl (pgs_cons (pg_name (i := 8) sc_Guard_led.nd rfl (Or.inl rfl)) (pgs_cons (pg_name (i := 9) sc_Guard_led.nd rfl (Or.inl rfl)) (pgs_star (pg_name (i := 10) sc_Guard_led.nd rfl (Or.inl rfl)) pgs_nil))))) (pss_cons (ps_asg (pe_fld (pv 0) rfl) (pg_tup rfl (pgs_cons (pg_name (i := 11) sc_Guard_led.nd rfl (Or.inl rfl)) (pgs_cons (pg_name (i := 12) sc_Guard_led.nd rfl (Or.inl rfl)) (pgs_cons (pg_name (i := 13) sc_Guard_led.nd rfl (Or.inl rfl)) pgs_nil))))) (pss_cons (ps_set (i := 14) sc_Guard_led.nd rfl (Or.inl rfl) (pe_cal (c_beat_on T) hr (by decide) rfl (pa_cons (pe_fld (pv 0) rfl) (pa_cons (pv 3) (pa_cons (pv 2) (pa_cons (pv 11) (pa_cons (pv 12) (pa_cons (pv 13) pa_nil)))))))) (pss_cons (ps_aug (i := 6) sc_Guard_led.nd rfl (Or.inl rfl) (pe_callTy (T := "int") call_int1 (by rfl) T.f_int (by decide +kernel) (pa_cons (pe_cmpR op_ne (pv 9) (pe_glob (v := .int (-1)) rfl T.i_NONE.choose_spec ⟨_, rfl⟩) (nomark _)) pa_nil)) ip_add) (pss_cons (ps_if (pt_cmpR op_gt (pe_ix (r := rIxT K) ix_tup (pv 14) pe_int (fun _ _ => rfl)) (pv 8) (nomark _)) (pss_cons (ps_set (i := 5) sc_Guard_led.nd rfl (Or.inl rfl) (pe_tup (pa_cons (pe_ix (r := rIxT K) ix_tup (pe_ix (r := rIxT K) ix_tup (pe_fld (pe_fld (pv 0) rfl) rfl) (pv 8) (fun _ _ => rfl)) (pv 9) (fun _ _ => rfl)) (pa_cons (pv 6) pa_nil)))) (pss_one (ps_set (i := 6) sc_Guard_led.nd rfl (Or.inl rfl) pe_int))) pss_nil) (pss_cons (ps_set (i := 15) sc_Guard_led.nd rfl (Or.inl rfl) (pe_cmpR op_eq (pe_ix (r := rIxT K) ix_tup (pv 14) pe_int (fun _ _ => rfl)) (pe_glob (v := .int (2)) rfl T.i_STALLS.choose_spec ⟨_, rfl⟩) (nomark _))) (pss_cons (ps_if (pt_val (pe_cal (c_is_over T) hr (by decide) rfl (pa_cons (pe_fld (pv 0) rfl) (pa_cons (pv 14) pa_nil)))) (pss_one (ps_ret (pe_tup (pa_cons (pv 15) (pa_cons pe_non pa_nil))))) pss_nil) (pss_cons (ps_if (pt_val (pe_calK (ck_asks T) hr (by decide) rfl (pa_cons (pe_fld (pv 0) rfl) (pa_cons (pv 14) pa_nil)) (pk_cons (pv 13) pk_nil))) (pss_cons (ps_set (i := 4) sc_Guard_led.nd rfl (Or.inl rfl) (pe_calM (c_Guard_choice_at T) T.c_Guard hr (by decide) (pv 0) (pa_cons (pv 14) (pa_cons (pv 4) (pa_cons (pv 5) pa_nil))))) (pss_one (ps_set (i := 14) sc_Guard_led.nd rfl (Or.inl rfl) (pe_calK (ck_chosen T) hr (by decide) rfl (pa_cons (pv 14) (pa_cons (pv 4) pa_nil)) (pk_cons (pe_fld (pv 0) rfl) pk_nil))))) pss_nil) (pss_cons (ps_asg (pe_op (r := rCatA K) op_catA (pv 7) (pe_tup (pa_cons (pe_callTy (T := "int") call_int1 (by rfl) T.f_int (by decide +kernel) (pa_cons (pe_cmpR op_eq (pv 2) (pe_fld (pv 0) rfl) (nomark _)) pa_nil)) pa_nil))) (pg_star (n := 2) (i := 1) rfl (pgs_cons (pg_name (i := 16) sc_Guard_led.nd rfl (Or.inl rfl)) (pgs_star (pg_name (i := 17) sc_Guard_led.nd rfl (Or.inl rfl)) pgs_nil)))) (pss_one (ps_ret (pe_tup (pa_cons (pv 15) (pa_cons (pe_tup (pa_cons (pv 14) (pa_cons (pv 4) (pa_cons (pv 5) (pa_cons (pv 6) (pa_cons (pe_callTy (T := "tuple") (r := rTupOf K) call_tuple_of (by rfl) T.f_tuple (by decide +kernel) (pa_cons (pv 17) pa_nil)) pa_nil)))))) pa_nil))))))))))))))), fun M D r nn => ?_⟩
  try dsimp only [Cx.nox, cxOf, ent, List.map, List.length_cons, List.length_nil, List.replicate_succ, List.replicate_zero, List.cons_append, List.nil_append, List.set]
  obtain ⟨g, x, v⟩ := i
  have gk : GOk g := c.g
  have xk : WtOk g.t g.o g.kd x := c.x
  have xb : WtB 1000 x := c.b
  refine q_asg (gv_var rfl) (gt_tup (ds := [dSd x.s, .int x.r, dLa x.la, .int x.we, dI x.pa]) (gts_cons gt_name (gts_cons gt_name (gts_cons gt_name (gts_cons gt_name (gts_cons gt_name gts_nil))))) rfl) ?_
  try dsimp only [List.set]
  refine q_asg (gv_var rfl) (gt_star0 (first := [.int x.s.n, .int x.s.c]) (mids := [.int x.s.g, .int x.s.k, .int x.s.p, .int x.s.w]) (gts_cons gt_name (gts_cons gt_name (gts_cons gt_name gts_nil))) rfl rfl (Nat.le_of_ble_eq_true rfl)) ?_
  try dsimp only [List.set]
  refine q_asg (gv_G_limits T (gv_var rfl)) (gt_tup (ds := [.int g.o.beg, .int g.o.aga, .int g.o.mst]) (gts_cons gt_name (gts_cons gt_name (gts_cons gt_name gts_nil))) rfl) ?_
  try dsimp only [List.set]
  refine q_set (r_beat_on (t := g.t) (o := g.o) (s := x.s) (v := v) (gv_G_talk T (gv_var rfl)) (gv_var rfl) (gv_var rfl) (gv_var rfl) (gv_var rfl) (gv_var rfl) gk.t xk.s) ?_
  have bk := beat_ok gk.t gk.o xk.s xk.no (x := v) c.v
  refine q_aug (f := fun i j => i + j) (a := x.we) (b := if x.s.c = -1 then 0 else 1) rfl (Gv.eq (gv_cb1 (gv_neI (i := x.s.c) (j := -1) (gv_var rfl) gv_int) gc_intB) (by rw [int_if])) ?_
  try dsimp only [List.set]
  have hla : ∀ q, laOf g.t g.o x v = some q → SpOk q := fun q hq => by
    unfold laOf at hq
    split at hq
    · rename_i hn
      have hw := xk.we
      have hb := xb.1
      cases hq
      rcases xk.s.com with ⟨e, _⟩ | ⟨c0, _⟩
      · have z := beat_n (T := g.t) (o := g.o) x.s v
        rcases z with z | ⟨_, z, _⟩
        · rw [z] at hn; exact absurd hn (Nat.lt_irrefl _)
        · exact absurd e z
      · have e : ¬ x.s.c = -1 := by omega
        rw [if_neg e]
        show 1 ≤ x.we + 1 ∧ x.we + 1 ≤ 1000000
        omega
    · have h1 := xb.2 q hq
      by_cases h0 : x.s.n = 0
      · rw [xk.la0 h0] at hq; cases hq
      · obtain ⟨q', e1, _, e2⟩ := xk.la1 h0
        rw [hq] at e1
        cases e1
        exact ⟨e2, by omega⟩
  refine q_join2 5 6 (tD K (dLa (laOf g.t g.o x v))) (tD K (.int (weOf g.t g.o x v))) (gb_val (gv_b0 (gv_ixN (ds := [.int (beat g.t g.o x.s v).n, .int (beat g.t g.o x.s v).c, .int (beat g.t g.o x.s v).g, .int (beat g.t g.o x.s v).k, .int (beat g.t g.o x.s v).p, .int (beat g.t g.o x.s v).w]) (j := 0) (d := .int (beat g.t g.o x.s v).n) (gv_var rfl) gv_int rfl rfl) (gv_var rfl))) (fun h k => ?_) (fun h k => ?_) ?_
  · have hn : x.s.n < (beat g.t g.o x.s v).n := Int.ofNat_lt.mp (of_decide_eq_true h)
    have e : ¬ x.s.c = -1 := by
      rcases beat_n (T := g.t) (o := g.o) x.s v with z | ⟨_, z, _⟩
      · rw [z] at hn; exact absurd hn (Nat.lt_irrefl _)
      · exact z
    rcases xk.s.com with ⟨z, _⟩ | ⟨c0, c1, c2, _⟩
    · exact absurd z e
    have e1 : laOf g.t g.o x v = some (g.t.S x.s.n x.s.c, x.we + (if x.s.c = -1 then 0 else 1)) := if_pos hn
    have e2 : weOf g.t g.o x v = 0 := if_pos hn
    rw [e1, e2] at k
    refine q_set (gv_tupd (gd_cons (gv_size T (t := g.t) (i := x.s.n) (r := x.s.c) gk.t (gv_G_talk T (gv_var rfl)) (gv_var rfl) (gv_var rfl) c2 c0 c1) (gd_cons (gv_var rfl) gd_nil)) rfl) ?_
    exact go_set gv_int k
  · have hn : ¬ x.s.n < (beat g.t g.o x.s v).n := fun z => (of_decide_eq_false h) (Int.ofNat_lt.mpr z)
    have e1 : laOf g.t g.o x v = x.la := if_neg hn
    have e2 : weOf g.t g.o x v = x.we + (if x.s.c = -1 then 0 else 1) := if_neg hn
    rw [e1, e2] at k
    exact go_next k
  try dsimp only [List.set]
  refine q_set (gv_eqI (gv_ixN (ds := [.int (beat g.t g.o x.s v).n, .int (beat g.t g.o x.s v).c, .int (beat g.t g.o x.s v).g, .int (beat g.t g.o x.s v).k, .int (beat g.t g.o x.s v).p, .int (beat g.t g.o x.s v).w]) (j := 5) (d := .int (beat g.t g.o x.s v).w) (gv_var rfl) gv_int rfl rfl) gv_int) ?_
  try dsimp only [List.set]
  refine q_when (gb_b (r_is_over (s := beat g.t g.o x.s v) (gv_G_talk T (gv_var rfl)) (gv_var rfl) gk.t.tot0)) (fun h => ?_) (fun h => ?_)
  · have ho : over g.t (beat g.t g.o x.s v) := of_decide_eq_true h
    refine go_retD r (gv_tupd (gd_cons (gv_var rfl) (gd_cons gv_non gd_nil)) rfl) ?_
    show _ = PyData.tuple [.bool (decide ((beat g.t g.o x.s v).w = 2)), dOW (if over g.t (beat g.t g.o x.s v) then none else some (nxt g.t g.o g.ch g.kd x v))]
    rw [if_pos ho]
    rfl
  have ho : ¬ over g.t (beat g.t g.o x.s v) := of_decide_eq_false h
  have ea : ask g.t (beat g.t g.o x.s v) g.o.mst = asks g.t g.o (beat g.t g.o x.s v) := rfl
  refine q_join2 4 14 (tD K (.int (rOf g.t g.o g.ch x v))) (tD K (dSd (sOf g.t g.o g.ch x v))) (gb_b (r_asks (s := beat g.t g.o x.s v) (gv_G_talk T (gv_var rfl)) (gv_var rfl) (gv_var rfl) (Nat.le_trans gk.t.len6 (by decide)) gk.o.m)) (fun h k => ?_) (fun h k => ?_) ?_
  · have ha : asks g.t g.o (beat g.t g.o x.s v) = true := h
    have hn : (beat g.t g.o x.s v).n < g.t.N := by
      unfold asks room at ha
      obtain ⟨_, h2⟩ := Bool.and_eq_true_iff.mp ha
      exact of_decide_eq_true (Bool.and_eq_true_iff.mp h2).1
    have e1 : rOf g.t g.o g.ch x v = g.ch (beat g.t g.o x.s v).n (beat g.t g.o x.s v).k (some x.r) (laOf g.t g.o x v) := if_pos ha
    have e2 : sOf g.t g.o g.ch x v = chos g.o (beat g.t g.o x.s v) (rOf g.t g.o g.ch x v) := if_pos ha
    rw [e2, e1] at k
    refine q_set (r_choice_at (s := beat g.t g.o x.s v) (r := some x.r) (l := laOf g.t g.o x v) (gv_var rfl) (gv_var rfl) (gv_var rfl) (gv_var rfl) gk.t gk.c hn hla) ?_
    exact go_set (r_chosen (s := beat g.t g.o x.s v) (gv_var rfl) (gv_var rfl) (gv_G_wait T (gv_var rfl))) k
  · have ha : ¬ asks g.t g.o (beat g.t g.o x.s v) = true := by rw [← ea, h]; decide
    have e1 : rOf g.t g.o g.ch x v = x.r := if_neg ha
    have e2 : sOf g.t g.o g.ch x v = beat g.t g.o x.s v := if_neg ha
    rw [e2, e1] at k
    exact go_next k
  try dsimp only [List.set]
  obtain ⟨z, zs, ez⟩ : ∃ z zs, x.pa ++ [bit g.kd v] = z :: zs := by
    cases x.pa with
    | nil => exact ⟨_, [], rfl⟩
    | cons a l => exact ⟨a, l ++ [bit g.kd v], rfl⟩
  have lz : zs.length ≤ 100 := by
    have h1 := congrArg List.length ez
    simp only [List.length_append, List.length_cons, List.length_nil] at h1
    have h2 := xk.pl
    have h3 := gk.k.w
    omega
  have cat : ∀ {G : Ctx} {u1 u2 : TE}, Gv G u1 (tD K (dI x.pa)) → Gv G u2 (tD K (.tuple [.int (if decide (v = g.kd.slow) = true then 1 else 0)])) → Gv G (tOp (rCatA K) u1 u2) (tD K (.tuple ([.int z] ++ zs.map .int))) := fun h1 h2 => by
    have e3 : (x.pa.map PyData.int) ++ [.int (if decide (v = g.kd.slow) = true then 1 else 0)] = [.int z] ++ zs.map .int := by
      rw [int_if2]
      have := congrArg (List.map PyData.int) ez
      rw [List.map_append] at this
      exact this
    rw [← e3]
    refine gv_cat h1 h2 ?_
    rw [List.length_map, sizeLine_eq, xk.pl]
    have h3 := gk.k.w
    show _ + 1 ≤ _
    omega
  refine q_asg (cat (gv_var rfl) (gv_tupd (gd_cons (gv_cb1 (gv_eqI (gv_var rfl) (gv_G_slow T (gv_var rfl))) gc_intB) gd_nil) rfl)) (gt_star0 (gts_cons gt_name (gts_cons gt_name gts_nil)) rfl rfl (by simp; omega)) ?_
  try dsimp only [List.set]
  refine go_retD r (gv_tupd (gd_cons (gv_var rfl) (gd_cons (gv_tupd (gd_cons (gv_var rfl) (gd_cons (gv_var rfl) (gd_cons (gv_var rfl) (gd_cons (gv_var rfl) (gd_cons (gv_cb1 (gv_var rfl) gc_tupL) gd_nil))))) rfl) gd_nil)) rfl) ?_
  show _ = PyData.tuple [.bool (decide ((beat g.t g.o x.s v).w = 2)), dOW (if over g.t (beat g.t g.o x.s v) then none else some (nxt g.t g.o g.ch g.kd x v))]
  rw [if_neg ho]
  have e4 : (nxt g.t g.o g.ch g.kd x v).pa = zs := by
    show (x.pa ++ [bit g.kd v]).drop 1 = zs
    rw [ez]
    rfl
  show _ = PyData.tuple [.bool (decide ((beat g.t g.o x.s v).w = 2)), .tuple [dSd (nxt g.t g.o g.ch g.kd x v).s, .int (nxt g.t g.o g.ch g.kd x v).r, dLa (nxt g.t g.o g.ch g.kd x v).la, .int (nxt g.t g.o g.ch g.kd x v).we, dI (nxt g.t g.o g.ch g.kd x v).pa]]
  rw [e4]
  rfl
theorem r_led {g : Gu} {x : Wt} {v : Int} (a : Gv Γ ta (tGuard P w K mg base g)) (b : Gv Γ tb (tD K (dWt x))) (c : Gv Γ tc (tD K (.int v))) (h1 : GOk g) (h2 : WtOk g.t g.o g.kd x) (h3 : WtB 1000 x) (h4 : 0 ≤ v) :
    Gv Γ (tMeth (cGuard K) "led" (spLed P w K mg base) [] E0 ta (tCons tb (tCons tc tNil))) (tD K (dLed (led g.t g.o g.ch g.kd x v))) := gv_meth (ι := Gl) ⟨g, x, v⟩ a (by rfl) (ga_cons b (ga_cons c ga_nil)) rfl ⟨h1, h2, h3, h4⟩
end
end RP
set_option maxHeartbeats 4000000
namespace RP
open PySem PySem.Spec PyProof.Rows L2
section
variable {P : Program} {w : World} {K : PySem.W.Frag} {mg : Str → Option Value} {base : Heap} {Γ : Ctx} {ta tb tc td te tf' : TE}
theorem sc_is_whole_watches : FnScope ["thing", "least"] ["thing", "least"] (defScope s_is_whole_watches) := ⟨rfl, rfl, rfl, by decide +kernel, rfl, by decide +kernel, by decide +kernel⟩
def spWholeW (K : PySem.W.Frag) : Sp := spP (fun _ : Int × Int => True) (fun i => [tD K (.int i.1), tD K (.int i.2)]) (fun i => tD K (.bool (decide (i.2 ≤ i.1))))
theorem c_is_whole_watches (T : Txt K mg) : Cal P w K mg base "is_whole_watches" 1 [] (spWholeW K) := by
  obtain ⟨fd, F⟩ := T.d_is_whole_watches
  refine ⟨_, fd, ["thing", "least"], [], ?_, T.g_is_whole_watches, F.kp, F.bindsN (fun _ _ _ _ _ _ us hl => match us, hl with | [_, _], _ => rfl), .nil⟩
  refine pure_ok F sc_is_whole_watches (fun _ => rfl) fun cdv A outer s H E i hr c => ⟨_, (pss_one (ps_ret (pe_and (pe_callB (id := "isinstance") (r := rIsi K) call_isi (by rfl) T.f_isinstance (by decide +kernel) (pa_cons (pv 0) (pa_cons (pe_bltn (v := .ty "int") rfl T.f_int (by decide +kernel) rfl) pa_nil))) (pe_and (pe_not (pe_callB (id := "isinstance") (r := rIsi K) call_isi (by rfl) T.f_isinstance (by decide +kernel) (pa_cons (pv 0) (pa_cons (pe_bltn (v := .ty "bool") rfl T.f_bool (by decide +kernel) rfl) pa_nil)))) (pe_one (pe_cmpR op_ge (pv 0) (pv 1) (nomark _))))))), fun M D r nn => ?_⟩
  try dsimp only [Cx.nox, cxOf, ent, List.map, List.length_cons, List.length_nil, List.replicate_succ, List.replicate_zero, List.cons_append, List.nil_append, List.set]
  exact go_retD r (gv_and (gv_isi (d := .int i.1) (gv_var rfl) kb_ii) fun _ => gv_and (gv_not (gv_isi (d := .int i.1) (gv_var rfl) kb_ib)) fun _ => gv_b0 (gv_var rfl) (gv_var rfl)) rfl
theorem r_is_wholeW {i l : Int} (a : Gv Γ ta (tD K (.int i))) (b : Gv Γ tb (tD K (.int l))) : Gv Γ (tCall (spWholeW K) [] E0 (tCons ta (tCons tb tNil))) (tD K (.bool (decide (l ≤ i)))) := gv_call0 (i, l) (ga_cons a (ga_cons b ga_nil)) rfl trivial
theorem sc_Guard_is_stand_on : FnScope ["self", "stand", "most"] ["self", "stand"] (defScope s_Guard_is_stand_on) := ⟨rfl, rfl, rfl, by decide +kernel, rfl, by decide +kernel, by decide +kernel⟩
structure Gt1 where
  g : Gu
  h : Th
def spStandOn (P : Program) (w : World) (K : PySem.W.Frag) (mg : Str → Option Value) (base : Heap) : Sp := spP (fun i : Gt1 => GOk i.g ∧ ∀ s, i.h = .st s → SOk i.g.t i.g.o s ∧ ¬ over i.g.t s ∧ asks i.g.t i.g.o s = false) (fun i => [tGuard P w K mg base i.g, tD K i.h.d]) (fun i => tD K (.bool i.h.b))
theorem c_Guard_is_stand_on (T : Txt K mg) : CalM P w K mg base (cGuard K) "is_stand_on" 4 (spStandOn P w K mg base) := by
  obtain ⟨fd, F⟩ := T.d_Guard_is_stand_on
  refine ⟨_, fd, ["self", "stand"], ?_, T.m_Guard_is_stand_on, F.bindsN (fun _ _ _ _ _ _ us hl => match us, hl with | [_, _], _ => rfl)⟩
  refine pure_ok F sc_Guard_is_stand_on (fun _ => rfl) fun cdv A outer s H E i hr c => ⟨_, (pss_cons (ps_set (i := 2) sc_Guard_is_stand_on.nd rfl (Or.inl rfl) (pe_ix (r := rIxT K) ix_tup (pe_fld (pv 0) rfl) pe_int (fun _ _ => rfl))) (pss_cons (ps_if (pt_not (pt_val (pe_calK (ck_is_stand T) hr (by decide) rfl (pa_cons (pe_fld (pv 0) rfl) (pa_cons (pv 1) pa_nil)) (pk_cons (pv 2) (pk_cons (pe_fld (pv 0) rfl) pk_nil))))) (pss_one (ps_ret pe_bl)) pss_nil) (pss_one (ps_ret (pe_and (pe_not (pe_cal (c_is_over T) hr (by decide) rfl (pa_cons (pe_fld (pv 0) rfl) (pa_cons (pv 1) pa_nil)))) (pe_one (pe_not (pe_calK (ck_asks T) hr (by decide) rfl (pa_cons (pe_fld (pv 0) rfl) (pa_cons (pv 1) pa_nil)) (pk_cons (pv 2) pk_nil))))))))), fun M D r nn => ?_⟩
  try dsimp only [Cx.nox, cxOf, ent, List.map, List.length_cons, List.length_nil, List.replicate_succ, List.replicate_zero, List.cons_append, List.nil_append, List.set]
  obtain ⟨g, h⟩ := i
  obtain ⟨gk, hk⟩ : GOk g ∧ ∀ s, h = .st s → SOk g.t g.o s ∧ ¬ over g.t s ∧ asks g.t g.o s = false := c
  refine q_set (gv_ixN (ds := [.int g.o.beg, .int g.o.aga, .int g.o.mst]) (j := 2) (d := .int g.o.mst) (gv_G_limits T (gv_var rfl)) gv_int rfl rfl) ?_
  try dsimp only [List.set]
  refine q_when (b := !h.b) (gb_not (gb_b (r_is_stand (t := g.t) (o := g.o) (h := h) (gv_G_talk T (gv_var rfl)) (gv_var rfl) (gv_var rfl) (gv_G_wait T (gv_var rfl)) gk.t gk.o fun s e => (hk s e).1))) (fun e => ?_) (fun e => ?_)
  · cases h with
    | st s => cases e
    | int j => exact go_retD r gv_bl rfl
  · cases h with
    | int j => cases e
    | st s =>
      obtain ⟨k1, k2, k3⟩ := hk s rfl
      have e1 : decide (over g.t s) = false := decide_eq_false k2
      have e2 : ask g.t s g.o.mst = false := k3
      refine go_retD r (gv_and (gv_not (r_is_over (s := s) (gv_G_talk T (gv_var rfl)) (gv_var rfl) gk.t.tot0)) fun _ => gv_not (r_asks (s := s) (gv_G_talk T (gv_var rfl)) (gv_var rfl) (gv_var rfl) (Nat.le_trans gk.t.len6 (by decide)) gk.o.m)) ?_
      rw [e1, e2]
      rfl
theorem sc_Guard_is_last : FnScope ["self", "stand", "thing", "one"] ["self", "stand", "thing"] (defScope s_Guard_is_last) := ⟨rfl, rfl, rfl, by decide +kernel, rfl, by decide +kernel, by decide +kernel⟩
def spIsLast (P : Program) (w : World) (K : PySem.W.Frag) (mg : Str → Option Value) (base : Heap) : Sp := spP (fun i : Gw => GOk i.g ∧ WtOk i.g.t i.g.o i.g.kd i.x) (fun i => [tGuard P w K mg base i.g, tD K (dSd i.x.s), tD K (dLa i.x.la)]) (fun _ => tD K (.bool true))
theorem c_Guard_is_last (T : Txt K mg) : CalM P w K mg base (cGuard K) "is_last" 2 (spIsLast P w K mg base) := by
  obtain ⟨fd, F⟩ := T.d_Guard_is_last
  refine ⟨_, fd, ["self", "stand", "thing"], ?_, T.m_Guard_is_last, F.bindsN (fun _ _ _ _ _ _ us hl => match us, hl with | [_, _, _], _ => rfl)⟩
  refine pure_ok F sc_Guard_is_last (fun _ => rfl) fun cdv A outer s H E i hr c => ⟨_, (pss_cons (ps_if (pt_cmpR op_eq (pe_ix (r := rIxT K) ix_tup (pv 1) pe_int (fun _ _ => rfl)) pe_int (nomark _)) (pss_one (ps_ret (pe_cmpR (r := rEqD K) (op_eqD hr.units) (pv 2) (pe_tup pa_nil) (nomark _)))) pss_nil) (pss_one (ps_ret (pe_and (pe_callB (id := "isinstance") (r := rIsi K) call_isi (by rfl) T.f_isinstance (by decide +kernel) (pa_cons (pv 2) (pa_cons (pe_bltn (v := .ty "tuple") rfl T.f_tuple (by decide +kernel) rfl) pa_nil))) (pe_and (pe_cmpR op_eq (pe_callB (id := "len") (r := rLn K) call_len_seq (by rfl) T.f_len (by decide +kernel) (pa_cons (pv 2) pa_nil)) pe_int (nomark _)) (pe_one (pe_callB (id := "all") (r := rAll K) (cr_all (by rfl)) (by rfl) T.f_all (by decide +kernel) (pa_cons (pe_lc (own := [("one", 3)]) (g := gName 3) (tt := tYes) (by rfl) sc_Guard_is_last.nd (pi_tup (pv 2)) (blkOk_by (own := [("one", 3)]) (N := ["self", "stand", "thing", "one"]) (sc := defScope s_Guard_is_last) (by decide +kernel)) (fun _ _ _ _ _ => pg_name (i := 3) sc_Guard_is_last.nd rfl (Or.inl rfl)) (fun _ _ _ _ _ => pts_nil) (fun _ _ _ _ _ => (pe_cal (c_is_whole_watches T) hr (by decide) rfl (pa_cons (pv 3) (pa_cons pe_int pa_nil))))) pa_nil)))))))), fun M D r nn => ?_⟩
  try dsimp only [Cx.nox, cxOf, ent, List.map, List.length_cons, List.length_nil, List.replicate_succ, List.replicate_zero, List.cons_append, List.nil_append, List.set]
  obtain ⟨g, x⟩ := i
  obtain ⟨gk, xk⟩ : GOk g ∧ WtOk g.t g.o g.kd x := c
  refine q_when (gb_val (gv_eqI (gv_ixN (ds := [.int x.s.n, .int x.s.c, .int x.s.g, .int x.s.k, .int x.s.p, .int x.s.w]) (j := 0) (d := .int x.s.n) (gv_var rfl) gv_int rfl rfl) gv_int)) (fun h => ?_) (fun h => ?_)
  · have h0 : x.s.n = 0 := by
      have : (x.s.n : Int) = 0 := of_decide_eq_true h
      omega
    have e := xk.la0 h0
    refine go_retD r (d := .bool (PyData.eqv (dLa x.la) (.tuple []))) (gv_eqD (gv_var rfl) (gv_tupd gd_nil rfl) (by rw [e]; rfl) rfl) ?_
    rw [e]
    rfl
  · have h0 : x.s.n ≠ 0 := fun z => (of_decide_eq_false h) (by rw [z]; rfl)
    obtain ⟨q, e, q1, q2⟩ := xk.la1 h0
    have v : ∀ {G : Ctx} {u : TE}, Gv G u (tD K (dLa x.la)) → Gv G u (tD K (.tuple [.int q.1, .int q.2])) := fun z => by
      rw [e] at z
      exact z
    have key : ∀ i, i < [q.1, q.2].length → 1 ≤ [q.1, q.2].getD i 0 := fun i hi => match i, hi with
      | 0, _ => q1.1
      | 1, _ => q2
    refine go_retD r (gv_and (gv_isi (d := .tuple [.int q.1, .int q.2]) (v (gv_var rfl)) kb_tt) fun _ => gv_and (gv_eqI (gv_cb1 (v (gv_var rfl)) gc_len) gv_int) fun _ => gv_allTrue (gi_ints (ns := [q.1, q.2]) (v (gv_var rfl))) (Nat.le_of_ble_eq_true rfl) fun i hi => Gv.eq (r_is_wholeW (i := [q.1, q.2].getD i 0) (gv_var rfl) gv_int) (by rw [decide_eq_true (key i hi)])) rfl
theorem sc_Guard_is_past : FnScope ["self", "thing", "one"] ["self", "thing"] (defScope s_Guard_is_past) := ⟨rfl, rfl, rfl, by decide +kernel, rfl, by decide +kernel, by decide +kernel⟩
def spIsPast (P : Program) (w : World) (K : PySem.W.Frag) (mg : Str → Option Value) (base : Heap) : Sp := spP (fun i : Gw => GOk i.g ∧ WtOk i.g.t i.g.o i.g.kd i.x) (fun i => [tGuard P w K mg base i.g, tD K (dI i.x.pa)]) (fun _ => tD K (.bool true))
theorem c_Guard_is_past (T : Txt K mg) : CalM P w K mg base (cGuard K) "is_past" 2 (spIsPast P w K mg base) := by
  obtain ⟨fd, F⟩ := T.d_Guard_is_past
  refine ⟨_, fd, ["self", "thing"], ?_, T.m_Guard_is_past, F.bindsN (fun _ _ _ _ _ _ us hl => match us, hl with | [_, _], _ => rfl)⟩
  refine pure_ok F sc_Guard_is_past (fun _ => rfl) fun cdv A outer s H E i hr c => ⟨_, (pss_cons (ps_if (PW.pt (pw_or (pt_not (pt_val (pe_callB (id := "isinstance") (r := rIsi K) call_isi (by rfl) T.f_isinstance (by decide +kernel) (pa_cons (pv 1) (pa_cons (pe_bltn (v := .ty "tuple") rfl T.f_tuple (by decide +kernel) rfl) pa_nil))))) (pw_or1 (pt_cmpR op_ne (pe_callB (id := "len") (r := rLn K) call_len_seq (by rfl) T.f_len (by decide +kernel) (pa_cons (pv 1) pa_nil)) (pe_op op_sub (pe_fld (pv 0) rfl) pe_int) (nomark _))))) (pss_one (ps_ret pe_bl)) pss_nil) (pss_one (ps_ret (pe_and (pe_callB (id := "all") (r := rAll K) (cr_all (by rfl)) (by rfl) T.f_all (by decide +kernel) (pa_cons (pe_lc (own := [("one", 2)]) (g := gName 2) (tt := tYes) (by rfl) sc_Guard_is_past.nd (pi_tup (pv 1)) (blkOk_by (own := [("one", 2)]) (N := ["self", "thing", "one"]) (sc := defScope s_Guard_is_past) (by decide +kernel)) (fun _ _ _ _ _ => pg_name (i := 2) sc_Guard_is_past.nd rfl (Or.inl rfl)) (fun _ _ _ _ _ => pts_nil) (fun _ _ _ _ _ => (pe_and (pe_cal (c_is_whole_watches T) hr (by decide) rfl (pa_cons (pv 2) (pa_cons pe_int pa_nil))) (pe_one (pe_cmpR op_lt (pv 2) pe_int (nomark _)))))) pa_nil)) (pe_one (pe_cmpR op_le (pe_callB (id := "sum") (r := rSumT K) (cr_sumT (by rfl)) (by rfl) T.f_sum (by decide +kernel) (pa_cons (pv 1) pa_nil)) (pe_fld (pv 0) rfl) (nomark _))))))), fun M D r nn => ?_⟩
  try dsimp only [Cx.nox, cxOf, ent, List.map, List.length_cons, List.length_nil, List.replicate_succ, List.replicate_zero, List.cons_append, List.nil_append, List.set]
  obtain ⟨g, x⟩ := i
  obtain ⟨gk, xk⟩ : GOk g ∧ WtOk g.t g.o g.kd x := c
  have w1 : 1 ≤ g.kd.wide := by have := gk.k.m0; have := gk.k.mw; omega
  have w6 := gk.k.w
  have pl := xk.pl
  refine q_when (b := false) (Gb.eq (gb_or (gb_not (gb_b (gv_isi (d := dI x.pa) (gv_var rfl) kb_tt))) fun _ => gb_val (gv_neI (gv_cb1 (gv_var rfl) (gc_len (ds := x.pa.map .int))) (gv_i0 (gv_G_wide T (gv_var rfl)) gv_int))) ?_) (fun h => nomatch h) (fun _ => ?_)
  · have e : (((x.pa.map PyData.int).length : Nat) : Int) = (g.kd.wide : Int) - 1 := by rw [List.length_map]; omega
    rw [e, decide_eq_true rfl]
    rfl
  have key : ∀ i, i < x.pa.length → x.pa.getD i 0 = 0 ∨ x.pa.getD i 0 = 1 := fun i hi => xk.pb _ (getD_mem hi)
  refine go_retD r (gv_and (gv_allTrue (gi_ints (ns := x.pa) (gv_var rfl)) (by omega) fun i hi => Gv.eq (gv_and (r_is_wholeW (i := x.pa.getD i 0) (gv_var rfl) gv_int) fun _ => gv_b0 (gv_var rfl) gv_int) (by
    have z := key i hi
    rw [decide_eq_true (show (0 : Int) ≤ x.pa.getD i 0 by omega), decide_eq_true (show x.pa.getD i 0 < 2 by omega)]
    rfl)) fun _ => gv_b0 (gv_cb1 (gv_var rfl) gc_sumT) (gv_G_many T (gv_var rfl))) ?_
  rw [decide_eq_true xk.ps]
  rfl
/-- what is asked whether it is a watch -/
inductive Tw where
  | wt (x : Wt)
  | int (i : Int)
def Tw.d : Tw → PyData
  | .wt x => dWt x
  | .int i => .int i
def Tw.b : Tw → Bool
  | .wt _ => true
  | .int _ => false
theorem sc_Guard_is_watch : FnScope ["self", "thing", "number", "coming", "others", "rate", "last", "went", "past"] ["self", "thing"] (defScope s_Guard_is_watch) := ⟨rfl, rfl, rfl, by decide +kernel, rfl, by decide +kernel, by decide +kernel⟩
structure Gtw where
  g : Gu
  h : Tw
def spIsWatch (P : Program) (w : World) (K : PySem.W.Frag) (mg : Str → Option Value) (base : Heap) : Sp := spP (fun i : Gtw => GOk i.g ∧ ∀ x, i.h = .wt x → WtOk i.g.t i.g.o i.g.kd x) (fun i => [tGuard P w K mg base i.g, tD K i.h.d]) (fun i => tD K (.bool i.h.b))
theorem c_Guard_is_watch (T : Txt K mg) : CalM P w K mg base (cGuard K) "is_watch" 5 (spIsWatch P w K mg base) := by
  obtain ⟨fd, F⟩ := T.d_Guard_is_watch
  refine ⟨_, fd, ["self", "thing"], ?_, T.m_Guard_is_watch, F.bindsN (fun _ _ _ _ _ _ us hl => match us, hl with | [_, _], _ => rfl)⟩
  refine pure_ok F sc_Guard_is_watch (fun _ => rfl) fun cdv A outer s H E i hr c => ⟨_, (pss_cons (ps_if (PW.pt (pw_or (pt_not (pt_val (pe_callB (id := "isinstance") (r := rIsi K) call_isi (by rfl) T.f_isinstance (by decide +kernel) (pa_cons (pv 1) (pa_cons (pe_bltn (v := .ty "tuple") rfl T.f_tuple (by decide +kernel) rfl) pa_nil))))) (pw_or (pt_cmpR op_ne (pe_callB (id := "len") (r := rLn K) call_len_seq (by rfl) T.f_len (by decide +kernel) (pa_cons (pv 1) pa_nil)) pe_int (nomark _)) (pw_or1 (pt_not (pt_val (pe_calM (c_Guard_is_stand_on T) T.c_Guard hr (by decide) (pv 0) (pa_cons (pe_ix (r := rIxT K) ix_tup (pv 1) pe_int (fun _ _ => rfl)) pa_nil)))))))) (pss_one (ps_ret pe_bl)) pss_nil) (pss_cons (ps_asg (pv 1) (pg_tup rfl (pgs_cons (pg_star (n := 3) (i := 2) rfl (pgs_cons (pg_name (i := 2) sc_Guard_is_watch.nd rfl (Or.inl rfl)) (pgs_cons (pg_name (i := 3) sc_Guard_is_watch.nd rfl (Or.inl rfl)) (pgs_star (pg_name (i := 4) sc_Guard_is_watch.nd rfl (Or.inl rfl)) pgs_nil)))) (pgs_cons (pg_name (i := 5) sc_Guard_is_watch.nd rfl (Or.inl rfl)) (pgs_cons (pg_name (i := 6) sc_Guard_is_watch.nd rfl (Or.inl rfl)) (pgs_cons (pg_name (i := 7) sc_Guard_is_watch.nd rfl (Or.inl rfl)) (pgs_cons (pg_name (i := 8) sc_Guard_is_watch.nd rfl (Or.inl rfl)) pgs_nil))))))) (pss_cons (ps_if (PW.pt (pw_or (pt_not (pt_val (pe_cal (c_is_rate T) hr (by decide) rfl (pa_cons (pe_fld (pv 0) rfl) (pa_cons (pv 5) pa_nil))))) (pw_or (pt_cmpR (r := rIn K true) op_notIn_seq (pv 3) (pe_tup (pa_cons (pe_glob (v := .int (-1)) rfl T.i_NONE.choose_spec ⟨_, rfl⟩) (pa_cons (pv 5) pa_nil))) (by with_unfolding_all rfl)) (pw_or1 (pt_not (pt_val (pe_cal (c_is_whole_watches T) hr (by decide) rfl (pa_cons (pv 7) (pa_cons pe_int pa_nil))))))))) (pss_one (ps_ret pe_bl)) pss_nil) (pss_cons (ps_if (PW.pt (pw_and (pt_cmpR op_eq (pv 3) (pe_glob (v := .int (-1)) rfl T.i_NONE.choose_spec ⟨_, rfl⟩) (nomark _)) (pw_and1 (pt_cmpR op_ne (pv 7) pe_int (nomark _))))) (pss_one (ps_ret pe_bl)) pss_nil) (pss_one (ps_ret (pe_and (pe_calM (c_Guard_is_last T) T.c_Guard hr (by decide) (pv 0) (pa_cons (pe_ix (r := rIxT K) ix_tup (pv 1) pe_int (fun _ _ => rfl)) (pa_cons (pv 6) pa_nil))) (pe_one (pe_calM (c_Guard_is_past T) T.c_Guard hr (by decide) (pv 0) (pa_cons (pv 8) pa_nil)))))))))), fun M D r nn => ?_⟩
  try dsimp only [Cx.nox, cxOf, ent, List.map, List.length_cons, List.length_nil, List.replicate_succ, List.replicate_zero, List.cons_append, List.nil_append, List.set]
  obtain ⟨g, h⟩ := i
  obtain ⟨gk, hk⟩ : GOk g ∧ ∀ x, h = .wt x → WtOk g.t g.o g.kd x := c
  cases h with
  | int j => exact q_when (b := true) (Gb.eq (gb_or (c := true) (gb_not (gb_b (gv_isi (d := .int j) (gv_var rfl) kb_it))) fun h => nomatch h) rfl) (fun _ => go_retD r gv_bl rfl) (fun h => nomatch h)
  | wt x =>
    have xk := hk x rfl
    refine q_when (b := false) (Gb.eq (gb_or (gb_not (gb_b (gv_isi (d := dWt x) (gv_var rfl) kb_tt))) fun _ => gb_or (gb_val (gv_neI (gv_cb1 (gv_var rfl) (gc_len (ds := [dSd x.s, .int x.r, dLa x.la, .int x.we, dI x.pa]))) gv_int)) fun _ => gb_not (gb_b (gv_meth (ι := Gt1) ⟨g, .st x.s⟩ (gv_var rfl) (by rfl) (ga_cons (gv_ixN (ds := [dSd x.s, .int x.r, dLa x.la, .int x.we, dI x.pa]) (j := 0) (d := dSd x.s) (gv_var rfl) gv_int rfl rfl) ga_nil) rfl ⟨gk, fun s e => by cases e; exact ⟨xk.s, xk.no, xk.na⟩⟩))) rfl) (fun h => by cases h) (fun _ => ?_)
    refine q_asg (gv_var rfl) (gt_tup (ds := [dSd x.s, .int x.r, dLa x.la, .int x.we, dI x.pa]) (gts_cons (gt_star0 (first := [.int x.s.n, .int x.s.c]) (mids := [.int x.s.g, .int x.s.k, .int x.s.p, .int x.s.w]) (gts_cons gt_name (gts_cons gt_name (gts_cons gt_name gts_nil))) rfl rfl (Nat.le_of_ble_eq_true rfl)) (gts_cons gt_name (gts_cons gt_name (gts_cons gt_name (gts_cons gt_name gts_nil))))) rfl) ?_
    try dsimp only [List.set]
    refine q_when (b := false) (Gb.eq (gb_or (gb_not (gb_b (r_is_rate (t := g.t) (d := .int x.r) (gv_G_talk T (gv_var rfl)) (gv_var rfl) gk.t rfl))) fun _ => gb_or (gb_val (gv_notIn (ns := [-1, x.r]) (gv_var rfl) (gv_tupd (gd_cons gv_int (gd_cons (gv_var rfl) gd_nil)) rfl))) fun _ => gb_not (gb_b (r_is_wholeW (i := x.we) (gv_var rfl) gv_int))) ?_) (fun h => nomatch h) (fun _ => ?_)
    · have e1 : isRt g.t (.int x.r) = true := by
        show (decide (0 ≤ x.r) && decide (x.r < (g.t.W : Int))) = true
        rw [decide_eq_true xk.r.1, decide_eq_true xk.r.2]
        rfl
      have e2 : decide (x.s.c ∈ [-1, x.r]) = true := decide_eq_true (by
        rcases xk.c with e | e <;> simp [e])
      rw [e1, e2, decide_eq_true xk.we]
      rfl
    refine q_when (b := false) (Gb.eq (gb_and (gb_val (gv_eqI (gv_var rfl) gv_int)) fun _ => gb_val (gv_neI (gv_var rfl) gv_int)) ?_) (fun h => nomatch h) (fun _ => ?_)
    · by_cases e : x.s.c = -1
      · rw [decide_eq_true (xk.we0 e)]
        simp
      · rw [decide_eq_false e]
        rfl
    exact go_retD r (gv_and (gv_meth (ι := Gw) ⟨g, x⟩ (gv_var rfl) (by rfl) (ga_cons (gv_ixN (ds := [dSd x.s, .int x.r, dLa x.la, .int x.we, dI x.pa]) (j := 0) (d := dSd x.s) (gv_var rfl) gv_int rfl rfl) (ga_cons (gv_var rfl) ga_nil)) rfl ⟨gk, xk⟩) fun _ => gv_meth (ι := Gw) ⟨g, x⟩ (gv_var rfl) (by rfl) (ga_cons (gv_var rfl) ga_nil) rfl ⟨gk, xk⟩) rfl
theorem r_is_watch {g : Gu} {h : Tw} (a : Gv Γ ta (tGuard P w K mg base g)) (b : Gv Γ tb (tD K h.d)) (c1 : GOk g) (c2 : ∀ x, h = .wt x → WtOk g.t g.o g.kd x) : Gv Γ (tMeth (cGuard K) "is_watch" (spIsWatch P w K mg base) [] E0 ta (tCons tb tNil)) (tD K (.bool h.b)) :=
  gv_meth (ι := Gtw) ⟨g, h⟩ a (by rfl) (ga_cons b ga_nil) rfl ⟨c1, c2⟩
end
end RP
set_option maxHeartbeats 4000000
namespace RP
open PySem PySem.Spec PyProof.Rows L2
section
variable {P : Program} {w : World} {K : PySem.W.Frag} {mg : Str → Option Value} {base : Heap} {Γ : Ctx} {ta tb tc td te tf' : TE}
/-! ### talks and roads made -/
theorem sc_Talk_init : FnScope ["self", "lengths", "sizes"] ["self", "lengths", "sizes"] (defScope s_Talk_init) := ⟨rfl, rfl, rfl, by decide +kernel, rfl, by decide +kernel, by decide +kernel⟩
abbrev fTalk (K : PySem.W.Frag) (t : Tk) : List (Str × Ty) := [("lengths", tD K (dI t.len)), ("sizes", tD K (.tuple (t.siz.map dI)))]
def spTalk (K : PySem.W.Frag) : Sp := spI (cTalk K) (fun _ : Tk => True) (fun t => [tD K (dI t.len), tD K (.tuple (t.siz.map dI))]) (fTalk K)
theorem c_Talk_init (T : Txt K mg) : CalC P w K mg base "Talk" (cTalk K) 1 (spTalk K) := by
  obtain ⟨fd, F⟩ := T.d_Talk_init
  refine ⟨_, fd, ["self", "lengths", "sizes"], ?_, T.g_Talk, T.k_Talk, F.bindsN (fun _ _ _ _ _ _ us hl => match us, hl with | [_, _, _], _ => rfl)⟩
  refine init_ok F sc_Talk_init (fun _ => rfl) fun cdv A outer s H E t hr c => ⟨_, (pss_cons (ps_fld (pv 0) (pv 1) rfl) (pss_one (ps_fld (pv 0) (pv 2) rfl))), fun a dx D k => ?_⟩
  have g : ∀ P, some P ∈ ent ["self", "lengths", "sizes"] [tV (.ref a), tD K (dI t.len), tD K (.tuple (t.siz.map dI))] → P.Fx := AllFx.ctx (.cons tV_fx (.cons tD_fx (.cons tD_fx .nil)))
  refine s_fld rfl (gv_var rfl) T.c_Talk T.n_Talk_lengths g (FldFx.mem .nil) tD_fx [] rfl (by decide +kernel) ?_
  exact q_fld rfl (gv_var rfl) T.c_Talk T.n_Talk_sizes g (FldFx.mem (.cons tD_fx .nil)) tD_fx ["lengths"] rfl (by decide +kernel) k
theorem r_Talk {t : Tk} (a1 : Gv Γ ta (tD K (dI t.len))) (a2 : Gv Γ tb (tD K (.tuple (t.siz.map dI)))) : Gv Γ (tMake (cTalk K) (spTalk K) [] E0 (tCons ta (tCons tb tNil))) (tTalk K t) := gv_make t (ga_cons a1 (ga_cons a2 ga_nil)) rfl trivial
abbrev dPs (ps : List (Int × Int)) : PyData := .tuple (ps.map fun q => .tuple [.int q.1, .int q.2])
abbrev fRoad (K : PySem.W.Frag) (ps : List (Int × Int)) : List (Str × Ty) := [("pieces", tD K (dPs ps))]
abbrev tRoad (K : PySem.W.Frag) (ps : List (Int × Int)) : Ty := tO (cRoad K) (fRoad K ps)
theorem tRoad_fx {ps : List (Int × Int)} : (tRoad K ps).Fx := tO_fx (by show (["pieces"] : List Str) ∈ fixed; decide +kernel) (FldFx.mem (.cons tD_fx .nil))
theorem gv_R_pieces (T : Txt K mg) {ps : List (Int × Int)} (h : Gv Γ te (tRoad K ps)) : Gv Γ (tFld K te "pieces") (tD K (dPs ps)) := gv_fld h T.c_Road T.n_Road_pieces (by rfl)
theorem sc_Road_init : FnScope ["self", "pieces"] ["self", "pieces"] (defScope s_Road_init) := ⟨rfl, rfl, rfl, by decide +kernel, rfl, by decide +kernel, by decide +kernel⟩
def spRoad (K : PySem.W.Frag) : Sp := spI (cRoad K) (fun _ : List (Int × Int) => True) (fun ps => [tD K (dPs ps)]) (fRoad K)
theorem c_Road_init (T : Txt K mg) : CalC P w K mg base "Road" (cRoad K) 1 (spRoad K) := by
  obtain ⟨fd, F⟩ := T.d_Road_init
  refine ⟨_, fd, ["self", "pieces"], ?_, T.g_Road, T.k_Road, F.bindsN (fun _ _ _ _ _ _ us hl => match us, hl with | [_, _], _ => rfl)⟩
  refine init_ok F sc_Road_init (fun _ => rfl) fun cdv A outer s H E ps hr c => ⟨_, (pss_one (ps_fld (pv 0) (pv 1) rfl)), fun a dx D k => ?_⟩
  have g : ∀ P, some P ∈ ent ["self", "pieces"] [tV (.ref a), tD K (dPs ps)] → P.Fx := AllFx.ctx (.cons tV_fx (.cons tD_fx .nil))
  exact q_fld rfl (gv_var rfl) T.c_Road T.n_Road_pieces g (FldFx.mem .nil) tD_fx [] rfl (by decide +kernel) k
theorem r_Road {ps : List (Int × Int)} (a1 : Gv Γ ta (tD K (dPs ps))) : Gv Γ (tMake (cRoad K) (spRoad K) [] E0 (tCons ta tNil)) (tRoad K ps) := gv_make ps (ga_cons a1 ga_nil) rfl trivial
/-- the speed at a beat -/
def rsp (l : Int) : List (Int × Int) → Int → Int
  | [], _ => l
  | q :: r, x => if x < q.1 then q.2 else rsp l r (x - q.1)
def lastV (ps : List (Int × Int)) : Int := (ps.getLastD (0, 0)).2
theorem sc_Road_speed_at : FnScope ["self", "beat", "left", "beats", "speed"] ["self", "beat"] (defScope s_Road_speed_at) := ⟨rfl, rfl, rfl, by decide +kernel, rfl, by decide +kernel, by decide +kernel⟩
def spSpd (K : PySem.W.Frag) : Sp := spP (fun i : List (Int × Int) × Int => i.1 ≠ [] ∧ i.1.length ≤ 100) (fun i => [tRoad K i.1, tD K (.int i.2)]) (fun i => tD K (.int (rsp (lastV i.1) i.1 i.2)))
theorem c_Road_speed_at (T : Txt K mg) : CalM P w K mg base (cRoad K) "speed_at" 1 (spSpd K) := by
  obtain ⟨fd, F⟩ := T.d_Road_speed_at
  refine ⟨_, fd, ["self", "beat"], ?_, T.m_Road_speed_at, F.bindsN (fun _ _ _ _ _ _ us hl => match us, hl with | [_, _], _ => rfl)⟩
  refine pure_ok F sc_Road_speed_at (fun _ => rfl) fun cdv A outer s H E i hr c => ⟨_, (pss_cons (ps_set (i := 2) sc_Road_speed_at.nd rfl (Or.inl rfl) (pv 1)) (pss_cons (ps_for PassesOwn.never rfl (pi_tup (pe_fld (pv 0) rfl)) (pg_tup rfl (pgs_cons (pg_name (i := 3) sc_Road_speed_at.nd rfl (Or.inl rfl)) (pgs_cons (pg_name (i := 4) sc_Road_speed_at.nd rfl (Or.inl rfl)) pgs_nil))) (pss_cons (ps_if (pt_cmpR op_lt (pv 2) (pv 3) (nomark _)) (pss_one (ps_ret (pv 4))) pss_nil) (pss_one (ps_aug (i := 2) sc_Road_speed_at.nd rfl (Or.inl rfl) (pv 3) ip_sub)))) (pss_one (ps_ret (pe_ix (r := rIxT K) ix_tup (pe_ix (r := rIxT K) ix_tup (pe_fld (pv 0) rfl) (pe_un un_neg pe_int) (fun _ _ => rfl)) pe_int (fun _ _ => rfl)))))), fun M D r nn => ?_⟩
  try dsimp only [Cx.nox, cxOf, ent, List.map, List.length_cons, List.length_nil, List.replicate_succ, List.replicate_zero, List.cons_append, List.nil_append, List.set]
  obtain ⟨ps, b⟩ := i
  have c1 : ps ≠ [] := c.1
  refine q_set (gv_var rfl) ?_
  try dsimp only [List.set]
  refine q_for (n := ps.length) (T := fun i => tD K (.tuple [.int (ps.getD i (0, 0)).1, .int (ps.getD i (0, 0)).2])) ?_ (fun i => [some (tRoad K ps), some (tD K (.int b)), some (tE (fun x : Int => rsp (lastV ps) ps b = rsp (lastV ps) (ps.drop i) x) (fun x => tD K (.int x))), none, none]) (fun σ H s => s.wk (.keep (.keep (.to (fun v H h => ⟨b, rfl, h⟩) (.any (.any .nil)))))) (fun i hi M' nx hM hn => ⟨_, gt_tup (ds := [.int (ps.getD i (0, 0)).1, .int (ps.getD i (0, 0)).2]) (gts_cons gt_name (gts_cons gt_name gts_nil)) rfl, ?_⟩) ?_
  · have z := gi_tup (K := K) (T := fun i => tD K (.tuple [.int (ps.getD i (0, 0)).1, .int (ps.getD i (0, 0)).2])) (gv_R_pieces T (ps := ps) (gv_var rfl : Gv [some (tRoad K ps), some (tD K (.int b)), some (tD K (.int b)), none, none] (tVar 0) (tRoad K ps))) (fun i d hd => by
      rw [List.getElem?_map] at hd
      cases e : ps[i]? with
      | none => rw [e] at hd; cases hd
      | some q =>
        rw [e] at hd
        cases hd
        have e2 : ps.getD i (0, 0) = q := by
          rw [List.getD_eq_getElem?_getD, e]
          rfl
        show tD K (.tuple [.int (ps.getD i (0, 0)).1, .int (ps.getD i (0, 0)).2]) = _
        rw [e2])
    rw [List.length_map] at z
    exact z
  · try dsimp only [List.set]
    refine go_open (i := 2) rfl fun x hx => ?_
    try dsimp only [List.set]
    have ed : ps.drop i = ps.getD i (0, 0) :: ps.drop (i + 1) := by
      rw [List.getD_eq_getElem?_getD, List.getElem?_eq_getElem hi]
      exact List.drop_eq_getElem_cons hi
    have hx' : rsp (lastV ps) ps b = if x < (ps.getD i (0, 0)).1 then (ps.getD i (0, 0)).2 else rsp (lastV ps) (ps.drop (i + 1)) (x - (ps.getD i (0, 0)).1) := by
      have z : rsp (lastV ps) ps b = rsp (lastV ps) (ps.drop i) x := hx
      rw [ed] at z
      exact z
    refine q_when (gb_val (gv_b0 (gv_var rfl) (gv_var rfl))) (fun h => ?_) (fun h => ?_)
    · refine go_retD (r.le hM) (gv_var rfl) ?_
      rw [hx', if_pos (of_decide_eq_true h)]
    · rw [if_neg (of_decide_eq_false h)] at hx'
      exact go_aug (f := fun i j => i - j) (a := x) (b := (ps.getD i (0, 0)).1) rfl (gv_var rfl) (hn.wk (.keep (.keep (.to (fun v H h => ⟨_, hx', h⟩) (.any (.any .nil))))))
  · try dsimp only [List.set]
    refine go_open (i := 2) rfl fun x hx => ?_
    try dsimp only [List.set]
    have hx' : rsp (lastV ps) ps b = lastV ps := by
      have z : rsp (lastV ps) ps b = rsp (lastV ps) (ps.drop ps.length) x := hx
      rw [List.drop_length] at z
      exact z
    have el : ps = ps.dropLast ++ [ps.getLastD (0, 0)] := by
      rw [List.getLastD_eq_getLast?, List.getLast?_eq_some_getLast c1]
      exact (List.dropLast_concat_getLast c1).symm
    refine go_retD r (gv_ixN (ds := [.int (ps.getLastD (0, 0)).1, .int (ps.getLastD (0, 0)).2]) (j := 1) (d := .int (lastV ps)) (gv_ix (i := -1) (gv_R_pieces T (gv_var rfl)) (gv_neg gv_int) ?_) gv_int rfl rfl) ?_
    · have e2 : (ps.map fun q => PyData.tuple [.int q.1, .int q.2]) = (ps.dropLast.map fun q => PyData.tuple [.int q.1, .int q.2]) ++ [.tuple [.int (ps.getLastD (0, 0)).1, .int (ps.getLastD (0, 0)).2]] := by
        have := congrArg (List.map fun q : Int × Int => PyData.tuple [.int q.1, .int q.2]) el
        rw [List.map_append] at this
        exact this
      rw [e2]
      exact atI_last _ _
    · rw [hx']
theorem r_speed_at {ps : List (Int × Int)} {b : Int} (a : Gv Γ ta (tRoad K ps)) (a1 : Gv Γ tb (tD K (.int b))) (c1 : ps ≠ []) (c2 : ps.length ≤ 100) : Gv Γ (tMeth (cRoad K) "speed_at" (spSpd K) [] E0 ta (tCons tb tNil)) (tD K (.int (rsp (lastV ps) ps b))) := gv_meth (ps, b) a (by rfl) (ga_cons a1 ga_nil) rfl ⟨c1, c2⟩
end
end RP
set_option maxHeartbeats 4000000
namespace RP
open PySem PySem.Spec PyProof.Rows L2
section
variable {P : Program} {w : World} {K : PySem.W.Frag} {mg : Str → Option Value} {base : Heap} {Γ : Ctx} {ta tb tc td te tf' : TE}
/-! ### kinds -/
theorem sc_is_whole_kinds : FnScope ["thing"] ["thing"] (defScope s_is_whole_kinds) := ⟨rfl, rfl, rfl, by decide +kernel, rfl, by decide +kernel, by decide +kernel⟩
def isIntD : PyData → Bool
  | .int _ => true
  | _ => false
def spWholeK (K : PySem.W.Frag) : Sp := spP (fun d : PyData => (∃ i, d = .int i) ∨ ∃ ds, d = .tuple ds) (fun d => [tD K d]) (fun d => tD K (.bool (isIntD d)))
theorem c_is_whole_kinds (T : Txt K mg) : Cal P w K mg base "is_whole_kinds" 1 [] (spWholeK K) := by
  obtain ⟨fd, F⟩ := T.d_is_whole_kinds
  refine ⟨_, fd, ["thing"], [], ?_, T.g_is_whole_kinds, F.kp, F.bindsN (fun _ _ _ _ _ _ us hl => match us, hl with | [_], _ => rfl), .nil⟩
  refine pure_ok F sc_is_whole_kinds (fun _ => rfl) fun cdv A outer s H E d hr c => ⟨_, (pss_one (ps_ret (pe_and (pe_callB (id := "isinstance") (r := rIsi K) call_isi (by rfl) T.f_isinstance (by decide +kernel) (pa_cons (pv 0) (pa_cons (pe_bltn (v := .ty "int") rfl T.f_int (by decide +kernel) rfl) pa_nil))) (pe_one (pe_not (pe_callB (id := "isinstance") (r := rIsi K) call_isi (by rfl) T.f_isinstance (by decide +kernel) (pa_cons (pv 0) (pa_cons (pe_bltn (v := .ty "bool") rfl T.f_bool (by decide +kernel) rfl) pa_nil)))))))), fun M D r nn => ?_⟩
  try dsimp only [Cx.nox, cxOf, ent, List.map, List.length_cons, List.length_nil, List.replicate_succ, List.replicate_zero, List.cons_append, List.nil_append, List.set]
  rcases c with ⟨i, rfl⟩ | ⟨ds, rfl⟩
  · exact go_retD r (gv_and (gv_isi (d := .int i) (gv_var rfl) kb_ii) fun _ => gv_not (gv_isi (d := .int i) (gv_var rfl) kb_ib)) rfl
  · exact go_retD r (gv_and (c := true) (gv_isi (d := .tuple ds) (gv_var rfl) kb_ti) fun h => nomatch h) rfl
theorem r_is_wholeK {d : PyData} (a : Gv Γ ta (tD K d)) (c : (∃ i, d = .int i) ∨ ∃ ds, d = .tuple ds) : Gv Γ (tCall (spWholeK K) [] E0 (tCons ta tNil)) (tD K (.bool (isIntD d))) := gv_call0 d (ga_cons a ga_nil) rfl c
def maxOr (d : Int) : List Int → Int
  | [] => d
  | y :: ys => ys.foldl max y
theorem maxOr_le {m : Int} (h0 : 0 ≤ m) : ∀ {l : List Int}, (∀ x ∈ l, x ≤ m) → maxOr 0 l ≤ m
  | [], _ => h0
  | y :: ys, h => by
    show ys.foldl max y ≤ m
    have key : ∀ (ys : List Int) (y : Int), y ≤ m → (∀ x ∈ ys, x ≤ m) → ys.foldl max y ≤ m := by
      intro ys
      induction ys with
      | nil => intro y hy _; exact hy
      | cons a ys ih => intro y hy h; exact ih (max y a) (by have := h a (List.mem_cons_self ..); omega) fun x hx => h x (List.mem_cons_of_mem _ hx)
    exact key ys y (h y (List.mem_cons_self ..)) fun x hx => h x (List.mem_cons_of_mem _ hx)
theorem gv_maxD {ns : List Int} {d : Int} (h : Gv Γ ta (tL K (ns.map .int))) (h2 : Gv Γ tb (tD K (.int d))) : Gv Γ (tCKw (rMaxD K) (tCons ta tNil) (tCons tb tNil)) (tD K (.int (maxOr d ns))) := fun σ H Q s q =>
  (ga_cons h ga_nil) σ H _ s fun vs H1 e1 hv => (ga_cons h2 ga_nil) σ H1 _ (s.up e1) fun zs H2 e2 hz => by
    obtain ⟨v, rfl, h⟩ := (hv.up e2).one
    obtain ⟨z, rfl, hz2⟩ := hz.one
    obtain ⟨a, xs, e, h1, h2⟩ := h
    rw [h2.ints] at h1
    refine ⟨a, ns, d, by rw [e], by rw [Du.int_inv hz2], h1, fun en => ?_, fun y ys en => ?_⟩
    · subst en
      exact q _ H2 (e1.trans e2) (.int _)
    · subst en
      exact q _ H2 (e1.trans e2) (.int _)
theorem cut_win {ds : List PyData} {k m : Nat} : cutD ds (some (k : Int)) (some ((k + m : Nat) : Int)) = (ds.drop k).take m := by
  unfold cutD
  rw [HT.sIx_nat, HT.sIx_nat]
  by_cases h : k ≤ ds.length
  · rw [Nat.min_eq_left h]
    by_cases h2 : k + m ≤ ds.length
    · rw [Nat.min_eq_left h2, Nat.add_sub_cancel_left]
    · rw [Nat.min_eq_right (by omega)]
      rw [List.take_of_length_le (by rw [List.length_drop]; omega), List.take_of_length_le (by rw [List.length_drop]; omega)]
  · rw [List.drop_of_length_le (by omega), List.drop_of_length_le (by omega)]
    simp
/-- what is asked whether it is of a kind -/
inductive Tg where
  | road (vs : List Int)
  | wts (l : List Wt)
def Tg.d : Tg → PyData
  | .road vs => dI vs
  | .wts l => .tuple (l.map dWt)
def Tg.b : Tg → Bool
  | .road _ => true
  | .wts _ => false
structure Ik where
  kd : Kd
  h : Tg
def IkOk (i : Ik) : Prop := KOk i.kd ∧ match i.h with
  | .road vs => (∀ v ∈ vs, v = i.kd.slow ∨ v = i.kd.fast) ∧ Wn i.kd.many i.kd.wide (vs.map (bit i.kd)) ∧ vs.length ≤ 1000
  | .wts l => l ≠ [] ∧ l.length ≤ 1000
theorem sc_is_of_kind : FnScope ["kind", "thing", "slow", "fast", "many", "wide", "one", "signs", "k"] ["kind", "thing"] (defScope s_is_of_kind) := ⟨rfl, rfl, rfl, by decide +kernel, rfl, by decide +kernel, by decide +kernel⟩
def spOfKind (K : PySem.W.Frag) : Sp := spP IkOk (fun i => [tD K (dKd i.kd), tD K i.h.d]) (fun i => tD K (.bool i.h.b))
theorem gi_data {ds : List PyData} (h : Gv Γ ta (tD K (.tuple ds))) : Gi Γ (iTup K ta) ds.length (fun i => tD K (ds.getD i .none)) := gi_tup h fun i d hd => by
  rw [List.getD_eq_getElem?_getD, hd]
  rfl
theorem c_is_of_kind (T : Txt K mg) : Cal P w K mg base "is_of_kind" 2 [] (spOfKind K) := by
  obtain ⟨fd, F⟩ := T.d_is_of_kind
  refine ⟨_, fd, ["kind", "thing"], [], ?_, T.g_is_of_kind, F.kp, F.bindsN (fun _ _ _ _ _ _ us hl => match us, hl with | [_, _], _ => rfl), .nil⟩
  refine pure_ok F sc_is_of_kind (fun _ => rfl) fun cdv A outer s H E i hr c => ⟨_, (pss_cons (ps_asg (pv 0) (pg_tup rfl (pgs_cons (pg_name (i := 2) sc_is_of_kind.nd rfl (Or.inr rfl)) (pgs_cons (pg_name (i := 3) sc_is_of_kind.nd rfl (Or.inr rfl)) (pgs_cons (pg_name (i := 4) sc_is_of_kind.nd rfl (Or.inl rfl)) (pgs_cons (pg_name (i := 5) sc_is_of_kind.nd rfl (Or.inr rfl)) pgs_nil)))))) (pss_cons (ps_if (PW.pt (pw_or (pt_not (pt_val (pe_callB (id := "isinstance") (r := rIsi K) call_isi (by rfl) T.f_isinstance (by decide +kernel) (pa_cons (pv 1) (pa_cons (pe_bltn (v := .ty "tuple") rfl T.f_tuple (by decide +kernel) rfl) pa_nil))))) (pw_or1 (pt_not (pt_val (pe_callB (id := "all") (r := rAll K) (cr_all (by rfl)) (by rfl) T.f_all (by decide +kernel) (pa_cons (pe_lc (own := [("one", 6)]) (g := gName 6) (tt := tYes) (by rfl) sc_is_of_kind.nd (pi_tup (pv 1)) (blkOk_by (own := [("one", 6)]) (N := ["kind", "thing", "slow", "fast", "many", "wide", "one", "signs", "k"]) (sc := defScope s_is_of_kind) (by decide +kernel)) (fun _ _ _ _ _ => pg_name (i := 6) sc_is_of_kind.nd rfl (Or.inl rfl)) (fun _ _ _ _ _ => pts_nil) (fun _ _ _ _ _ => (pe_and (pe_cal (c_is_whole_kinds T) hr (by decide) rfl (pa_cons (pv 6) pa_nil)) (pe_one (pe_cmpR (r := rIn K false) op_in_seq (pv 6) (pe_tup (pa_cons (pv 2) (pa_cons (pv 3) pa_nil))) (by with_unfolding_all rfl)))))) pa_nil))))))) (pss_one (ps_ret pe_bl)) pss_nil) (pss_cons (ps_set (i := 7) sc_is_of_kind.nd rfl (Or.inr rfl) (pe_lc (own := [("one", 6)]) (g := gName 6) (tt := tYes) (by rfl) sc_is_of_kind.nd (pi_tup (pv 1)) (blkOk_by (own := [("one", 6)]) (N := ["kind", "thing", "slow", "fast", "many", "wide", "one", "signs", "k"]) (sc := defScope s_is_of_kind) (by decide +kernel)) (fun _ _ _ _ _ => pg_name (i := 6) sc_is_of_kind.nd rfl (Or.inl rfl)) (fun _ _ _ _ _ => pts_nil) (fun _ _ _ _ _ => (pe_callTy (T := "int") call_int1 (by rfl) T.f_int (by decide +kernel) (pa_cons (pe_cmpR op_eq (pv 6) (pv 2) (nomark _)) pa_nil))))) (pss_one (ps_ret (pe_cmpR op_le (pe_callBK (cr_maxD (by rfl) hr.units) (by rfl) T.f_max (by decide +kernel) (pa_cons (pe_lc (own := [("k", 8)]) (g := gName 8) (tt := tYes) (by rfl) sc_is_of_kind.nd (pi_range1 (by rfl) T.f_range (pa_cons (pe_callB (id := "len") (r := rLn K) call_len_seq (by rfl) T.f_len (by decide +kernel) (pa_cons (pv 7) pa_nil)) pa_nil)) (blkOk_by (own := [("k", 8)]) (N := ["kind", "thing", "slow", "fast", "many", "wide", "one", "signs", "k"]) (sc := defScope s_is_of_kind) (by decide +kernel)) (fun _ _ _ _ _ => pg_name (i := 8) sc_is_of_kind.nd rfl (Or.inl rfl)) (fun _ _ _ _ _ => pts_nil) (fun _ _ _ _ _ => (pe_callB (id := "sum") (r := rSum K) (cr_sum (by rfl)) (by rfl) T.f_sum (by decide +kernel) (pa_cons (pe_slice (r := rSlL K) sl_list (pv 7) (po_some (pv 8)) (po_some (pe_op op_add (pv 8) (pv 5)))) pa_nil)))) pa_nil) (pk_cons pe_int pk_nil)) (pv 4) (nomark _))))))), fun M D r nn => ?_⟩
  try dsimp only [Cx.nox, cxOf, ent, List.map, List.length_cons, List.length_nil, List.replicate_succ, List.replicate_zero, List.cons_append, List.nil_append, List.set]
  obtain ⟨kd, th⟩ := i
  obtain ⟨kk, hc⟩ := c
  refine q_asg (gv_var rfl) (gt_tup (ds := [.int kd.slow, .int kd.fast, .int kd.many, .int (kd.wide : Nat)]) (gts_cons gt_name (gts_cons gt_name (gts_cons gt_name (gts_cons gt_name gts_nil)))) rfl) ?_
  try dsimp only [List.set]
  cases th with
  | wts l =>
    obtain ⟨l0, lz⟩ : l ≠ [] ∧ l.length ≤ 1000 := hc
    have lpos : 0 < l.length := List.length_pos_iff.mpr l0
    refine q_when (b := true) (Gb.eq (b := !true || !false) (gb_or (gb_not (gb_b (gv_isi (d := .tuple (l.map dWt)) (gv_var rfl) kb_tt))) fun _ => gb_not (gb_b (Gv.eq (gv_cb1 (gv_lc (ds := (List.replicate l.length false).map .bool) (gi_data (ds := l.map dWt) (gv_var rfl)) (by simp) (by simpa using lz) fun i d hd => ?_) gc_all) ?_))) rfl) (fun _ => go_retD r gv_bl rfl) (fun h => by cases h)
    · rw [List.getElem?_map] at hd
      cases e : (List.replicate l.length false)[i]? with
      | none => rw [e] at hd; cases hd
      | some b =>
        rw [e] at hd
        cases hd
        rw [rep_get e]
        have hi : i < l.length := by
          have := (List.getElem?_eq_some_iff.mp e).1
          rw [List.length_replicate] at this
          exact this
        have e2 : (l.map dWt).getD i .none = dWt l[i] := by
          rw [List.getD_eq_getElem?_getD, List.getElem?_map, List.getElem?_eq_getElem hi]
          rfl
        rw [e2]
        exact gv_and (c := true) (r_is_wholeK (d := dWt l[i]) (gv_var rfl) (.inr ⟨_, rfl⟩)) fun h => nomatch h
    · have e : (List.replicate l.length false).all id = false := by
        cases l with
        | nil => exact absurd rfl l0
        | cons a l => rfl
      rw [e]
  | road vs =>
    obtain ⟨h1, h2, h3⟩ : (∀ v ∈ vs, v = kd.slow ∨ v = kd.fast) ∧ Wn kd.many kd.wide (vs.map (bit kd)) ∧ vs.length ≤ 1000 := hc
    refine q_when (b := false) (Gb.eq (b := !true || !true) (gb_or (gb_not (gb_b (gv_isi (d := dI vs) (gv_var rfl) kb_tt))) fun _ => gb_not (gb_b (gv_allTrue (gi_ints (ns := vs) (gv_var rfl)) h3 fun i hi => Gv.eq (gv_and (r_is_wholeK (d := .int (vs.getD i 0)) (gv_var rfl) (.inl ⟨_, rfl⟩)) fun _ => gv_in (ns := [kd.slow, kd.fast]) (gv_var rfl) (gv_tupd (gd_cons (gv_var rfl) (gd_cons (gv_var rfl) gd_nil)) rfl)) ?_))) rfl) (fun h => by cases h) (fun _ => ?_)
    · have z := h1 _ (getD_mem (d := 0) hi)
      rw [decide_eq_true (show vs.getD i 0 ∈ [kd.slow, kd.fast] from by
        rcases z with z | z
        · rw [z]; exact List.mem_cons_self ..
        · rw [z]; exact List.mem_cons_of_mem _ (List.mem_cons_self ..))]
      rfl
    refine q_asg (P := tL K ((vs.map (bit kd)).map .int)) (gv_lc (gi_ints (ns := vs) (gv_var rfl)) (by simp) h3 fun i d hd => ?_) gt_name ?_
    · rw [List.getElem?_map, List.getElem?_map] at hd
      cases e : vs[i]? with
      | none => rw [e] at hd; cases hd
      | some z =>
        rw [e] at hd
        cases hd
        have e2 : vs.getD i 0 = z := by
          rw [List.getD_eq_getElem?_getD, e]
          rfl
        rw [e2]
        refine Gv.eq (gv_cb1 (gv_eqI (i := z) (j := kd.slow) (gv_var rfl) (gv_var rfl)) gc_intB) ?_
        rw [int_if2]
        rfl
    try dsimp only [List.set]
    have hL : (vs.map (bit kd)).length = vs.length := by simp
    refine go_retD r (gv_b0 (gv_maxD (ns := (List.range vs.length).map fun k => (((vs.map (bit kd)).drop k).take kd.wide).sum) (gv_lc (gi_rng (T := fun i => tD K (.int (i : Nat))) (n := (vs.length : Nat)) (ga_cons (Gv.eq (gv_cb1 (gv_var rfl) gc_lenL) (by simp)) ga_nil) ⟨by omega, by omega⟩ fun _ => rfl) (by simp) (by omega) fun i d hd => ?_) gv_int) (gv_var rfl)) ?_
    · rw [List.map_map, List.getElem?_map] at hd
      cases e : (List.range vs.length)[i]? with
      | none => rw [e] at hd; cases hd
      | some k =>
        rw [e] at hd
        cases hd
        have ek : k = i := by
          have := (List.getElem?_eq_some_iff.mp e).2
          simpa using this.symm
        subst ek
        have sl := gv_sliceL (K := K) (Γ := [some (tD K (dKd kd)), some (tD K (dI vs)), some (tD K (.int kd.slow)), some (tD K (.int kd.fast)), some (tD K (.int kd.many)), some (tD K (.int (kd.wide : Nat))), none, some (tL K ((vs.map (bit kd)).map .int)), some (tD K (.int (k : Nat)))]) (ta := tVar 7) (gv_var rfl) (go1_some (te := tVar 8) (gv_var rfl)) (go1_some (i := ((k + kd.wide : Nat) : Int)) (te := tOp (rI0 fun i j => .int (i + j)) (tVar 8) (tVar 5)) (Gv.eq (gv_i0 (gv_var rfl) (gv_var rfl)) (by simp)))
        rw [cut_win, ← List.map_drop, ← List.map_take] at sl
        exact gv_cb1 sl gc_sumL
    · have e : maxOr 0 ((List.range vs.length).map fun k => (((vs.map (bit kd)).drop k).take kd.wide).sum) ≤ kd.many := maxOr_le kk.m0 fun x hx => by
        obtain ⟨k, _, rfl⟩ := List.mem_map.mp hx
        exact h2 k
      rw [decide_eq_true e]
      rfl
theorem r_is_of_kind {kd : Kd} {h : Tg} (a : Gv Γ ta (tD K (dKd kd))) (b : Gv Γ tb (tD K h.d)) (c : IkOk ⟨kd, h⟩) : Gv Γ (tCall (spOfKind K) [] E0 (tCons ta (tCons tb tNil))) (tD K (.bool h.b)) := gv_call0 (ι := Ik) ⟨kd, h⟩ (ga_cons a (ga_cons b ga_nil)) rfl c
end
end RP
set_option maxHeartbeats 4000000
namespace RP
open PySem PySem.Spec PyProof.Rows L2
section
variable {P : Program} {w : World} {K : PySem.W.Frag} {mg : Str → Option Value} {base : Heap} {Γ : Ctx} {ta tb tc td te tf' tg : TE}
/-! ### runs -/
structure Rr where
  rates : List Int
  begun : List Int
  whole : List Int
  plays : List Int
  stalls : List (Int × Int)
  ended : Int
  kept : List Int
abbrev dRr (r : Rr) : PyData := .tuple [dI r.rates, dI r.begun, dI r.whole, dI r.plays, dPs r.stalls, .int r.ended, dI r.kept]
abbrev fRun (K : PySem.W.Frag) (r : Rr) : List (Str × Ty) := [("rates", tD K (dI r.rates)), ("begun", tD K (dI r.begun)), ("whole", tD K (dI r.whole)), ("plays", tD K (dI r.plays)), ("stalls", tD K (dPs r.stalls)), ("ended", tD K (.int r.ended)), ("kept", tD K (dI r.kept))]
abbrev tRun (K : PySem.W.Frag) (r : Rr) : Ty := tO (cRun K) (fRun K r)
theorem tRun_fx {r : Rr} : (tRun K r).Fx := tO_fx (by show (["rates", "begun", "whole", "plays", "stalls", "ended", "kept"] : List Str) ∈ fixed; decide +kernel)
  (FldFx.mem (.cons tD_fx (.cons tD_fx (.cons tD_fx (.cons tD_fx (.cons tD_fx (.cons tD_fx (.cons tD_fx .nil))))))))
section
variable {r : Rr}
theorem gv_Run_rates (T : Txt K mg) (h : Gv Γ te (tRun K r)) : Gv Γ (tFld K te "rates") (tD K (dI r.rates)) := gv_fld h T.c_Run T.n_Run_rates (by rfl)
theorem gv_Run_begun (T : Txt K mg) (h : Gv Γ te (tRun K r)) : Gv Γ (tFld K te "begun") (tD K (dI r.begun)) := gv_fld h T.c_Run T.n_Run_begun (by rfl)
theorem gv_Run_whole (T : Txt K mg) (h : Gv Γ te (tRun K r)) : Gv Γ (tFld K te "whole") (tD K (dI r.whole)) := gv_fld h T.c_Run T.n_Run_whole (by rfl)
theorem gv_Run_plays (T : Txt K mg) (h : Gv Γ te (tRun K r)) : Gv Γ (tFld K te "plays") (tD K (dI r.plays)) := gv_fld h T.c_Run T.n_Run_plays (by rfl)
theorem gv_Run_stalls (T : Txt K mg) (h : Gv Γ te (tRun K r)) : Gv Γ (tFld K te "stalls") (tD K (dPs r.stalls)) := gv_fld h T.c_Run T.n_Run_stalls (by rfl)
theorem gv_Run_ended (T : Txt K mg) (h : Gv Γ te (tRun K r)) : Gv Γ (tFld K te "ended") (tD K (.int r.ended)) := gv_fld h T.c_Run T.n_Run_ended (by rfl)
theorem gv_Run_kept (T : Txt K mg) (h : Gv Γ te (tRun K r)) : Gv Γ (tFld K te "kept") (tD K (dI r.kept)) := gv_fld h T.c_Run T.n_Run_kept (by rfl)
end
theorem sc_Run_init : FnScope ["self", "rates", "begun", "whole", "plays", "stalls", "ended", "kept"] ["self", "rates", "begun", "whole", "plays", "stalls", "ended", "kept"] (defScope s_Run_init) := ⟨rfl, rfl, rfl, by decide +kernel, rfl, by decide +kernel, by decide +kernel⟩
def spRun (K : PySem.W.Frag) : Sp := spI (cRun K) (fun _ : Rr => True) (fun r => [tD K (dI r.rates), tD K (dI r.begun), tD K (dI r.whole), tD K (dI r.plays), tD K (dPs r.stalls), tD K (.int r.ended), tD K (dI r.kept)]) (fRun K)
theorem c_Run_init (T : Txt K mg) : CalC P w K mg base "Run" (cRun K) 1 (spRun K) := by
  obtain ⟨fd, F⟩ := T.d_Run_init
  refine ⟨_, fd, ["self", "rates", "begun", "whole", "plays", "stalls", "ended", "kept"], ?_, T.g_Run, T.k_Run, F.bindsN (fun _ _ _ _ _ _ us hl => match us, hl with | [_, _, _, _, _, _, _, _], _ => rfl)⟩
  refine init_ok F sc_Run_init (fun _ => rfl) fun cdv A outer s H E r hr c => ⟨_, (pss_cons (ps_fld (pv 0) (pv 1) rfl) (pss_cons (ps_fld (pv 0) (pv 2) rfl) (pss_cons (ps_fld (pv 0) (pv 3) rfl) (pss_cons (ps_fld (pv 0) (pv 4) rfl) (pss_cons (ps_fld (pv 0) (pv 5) rfl) (pss_cons (ps_fld (pv 0) (pv 6) rfl) (pss_one (ps_fld (pv 0) (pv 7) rfl)))))))), fun a dx D k => ?_⟩
  have g : ∀ P, some P ∈ ent ["self", "rates", "begun", "whole", "plays", "stalls", "ended", "kept"] [tV (.ref a), tD K (dI r.rates), tD K (dI r.begun), tD K (dI r.whole), tD K (dI r.plays), tD K (dPs r.stalls), tD K (.int r.ended), tD K (dI r.kept)] → P.Fx :=
    AllFx.ctx (.cons tV_fx (.cons tD_fx (.cons tD_fx (.cons tD_fx (.cons tD_fx (.cons tD_fx (.cons tD_fx (.cons tD_fx .nil))))))))
  refine s_fld rfl (gv_var rfl) T.c_Run T.n_Run_rates g (FldFx.mem .nil) tD_fx [] rfl (by decide +kernel) ?_
  refine s_fld rfl (gv_var rfl) T.c_Run T.n_Run_begun g (FldFx.mem (.cons tD_fx .nil)) tD_fx ["rates"] rfl (by decide +kernel) ?_
  refine s_fld rfl (gv_var rfl) T.c_Run T.n_Run_whole g (FldFx.mem (.cons tD_fx (.cons tD_fx .nil))) tD_fx ["rates", "begun"] rfl (by decide +kernel) ?_
  refine s_fld rfl (gv_var rfl) T.c_Run T.n_Run_plays g (FldFx.mem (.cons tD_fx (.cons tD_fx (.cons tD_fx .nil)))) tD_fx ["rates", "begun", "whole"] rfl (by decide +kernel) ?_
  refine s_fld rfl (gv_var rfl) T.c_Run T.n_Run_stalls g (FldFx.mem (.cons tD_fx (.cons tD_fx (.cons tD_fx (.cons tD_fx .nil))))) tD_fx ["rates", "begun", "whole", "plays"] rfl (by decide +kernel) ?_
  refine s_fld rfl (gv_var rfl) T.c_Run T.n_Run_ended g (FldFx.mem (.cons tD_fx (.cons tD_fx (.cons tD_fx (.cons tD_fx (.cons tD_fx .nil)))))) tD_fx ["rates", "begun", "whole", "plays", "stalls"] rfl (by decide +kernel) ?_
  exact q_fld rfl (gv_var rfl) T.c_Run T.n_Run_kept g (FldFx.mem (.cons tD_fx (.cons tD_fx (.cons tD_fx (.cons tD_fx (.cons tD_fx (.cons tD_fx .nil))))))) tD_fx ["rates", "begun", "whole", "plays", "stalls", "ended"] rfl (by decide +kernel) k
theorem sc_Run_all_told : FnScope ["self"] ["self"] (defScope s_Run_all_told) := ⟨rfl, rfl, rfl, by decide +kernel, rfl, by decide +kernel, by decide +kernel⟩
def spTold (K : PySem.W.Frag) : Sp := spP (fun _ : Rr => True) (fun r => [tRun K r]) (fun r => tD K (dRr r))
theorem c_Run_all_told (T : Txt K mg) : CalM P w K mg base (cRun K) "all_told" 1 (spTold K) := by
  obtain ⟨fd, F⟩ := T.d_Run_all_told
  refine ⟨_, fd, ["self"], ?_, T.m_Run_all_told, F.bindsN (fun _ _ _ _ _ _ us hl => match us, hl with | [_], _ => rfl)⟩
  refine pure_ok F sc_Run_all_told (fun _ => rfl) fun cdv A outer s H E r hr c => ⟨_, (pss_one (ps_ret (pe_tup (pa_cons (pe_fld (pv 0) rfl) (pa_cons (pe_fld (pv 0) rfl) (pa_cons (pe_fld (pv 0) rfl) (pa_cons (pe_fld (pv 0) rfl) (pa_cons (pe_fld (pv 0) rfl) (pa_cons (pe_fld (pv 0) rfl) (pa_cons (pe_fld (pv 0) rfl) pa_nil)))))))))), fun M D rt nn => ?_⟩
  try dsimp only [Cx.nox, cxOf, ent, List.map, List.length_cons, List.length_nil, List.replicate_succ, List.replicate_zero, List.cons_append, List.nil_append, List.set]
  exact go_retD rt (gv_tupd (gd_cons (gv_Run_rates T (gv_var rfl)) (gd_cons (gv_Run_begun T (gv_var rfl)) (gd_cons (gv_Run_whole T (gv_var rfl)) (gd_cons (gv_Run_plays T (gv_var rfl)) (gd_cons (gv_Run_stalls T (gv_var rfl)) (gd_cons (gv_Run_ended T (gv_var rfl)) (gd_cons (gv_Run_kept T (gv_var rfl)) gd_nil))))))) rfl) rfl
structure Lay (n : Nat) (d : PyData) : Prop where
  c : d.canLay0 = true
  p : d.depth ≤ n
theorem lay_all : ∀ {ds : List PyData}, (∀ d ∈ ds, d.canLay0 = true) → PyData.canLayAll0 ds = true
  | [], _ => by simp [PyData.canLayAll0]
  | d :: ds, h => by
    have h1 := h d (List.mem_cons_self ..)
    have h2 := lay_all (ds := ds) fun e he => h e (List.mem_cons_of_mem _ he)
    simp [PyData.canLayAll0, h1, h2]
theorem dep_all {n : Nat} : ∀ {ds : List PyData}, (∀ d ∈ ds, d.depth ≤ n) → PyData.depthAll ds ≤ n
  | [], _ => by simp [PyData.depthAll]
  | d :: ds, h => by
    have h1 := h d (List.mem_cons_self ..)
    have h2 := dep_all (ds := ds) fun e he => h e (List.mem_cons_of_mem _ he)
    simp only [PyData.depthAll]
    omega
theorem Lay.tup {n : Nat} {ds : List PyData} (h : ∀ d ∈ ds, Lay n d) : Lay (n + 1) (.tuple ds) :=
  ⟨by simp only [PyData.canLay0]; exact lay_all fun d hd => (h d hd).c, by simp only [PyData.depth]; have := dep_all fun d hd => (h d hd).p; omega⟩
theorem Lay.int {n : Nat} {i : Int} : Lay n (.int i) := ⟨by simp [PyData.canLay0], by simp [PyData.depth]⟩
theorem Lay.bool {n : Nat} {b : Bool} : Lay n (.bool b) := ⟨by simp [PyData.canLay0], by simp [PyData.depth]⟩
theorem Lay.non {n : Nat} : Lay n .none := ⟨by simp [PyData.canLay0], by simp [PyData.depth]⟩
theorem Lay.mono {n m : Nat} {d : PyData} (h : Lay n d) (e : n ≤ m) : Lay m d := ⟨h.c, Nat.le_trans h.p e⟩
theorem Lay.sh {n : Nat} {d : PyData} (h : Lay n d) (hn : n ≤ 64) : SeqAt.shaped d = true := by
  unfold SeqAt.shaped
  rw [h.c, decide_eq_true (Nat.le_trans h.p hn)]
  rfl
theorem Lay.dI {n : Nat} {ns : List Int} : Lay (n + 1) (dI ns) := .tup fun d hd => by
  obtain ⟨i, _, rfl⟩ := List.mem_map.mp hd
  exact .int
theorem Lay.dPs {n : Nat} {ps : List (Int × Int)} : Lay (n + 2) (dPs ps) := .tup fun d hd => by
  obtain ⟨q, _, rfl⟩ := List.mem_map.mp hd
  exact .tup fun d hd => by
    rcases List.mem_cons.mp hd with e | hd
    · rw [e]; exact .int
    · rcases List.mem_cons.mp hd with e | hd
      · rw [e]; exact .int
      · cases hd
/-- each of a written list -/
inductive Lays (n : Nat) : List PyData → Prop
  | nil : Lays n []
  | cons {d : PyData} {ds : List PyData} (h : Lay n d) (t : Lays n ds) : Lays n (d :: ds)
theorem Lays.mem {n : Nat} : ∀ {ds : List PyData}, Lays n ds → ∀ d ∈ ds, Lay n d
  | _, .nil, _, h => by cases h
  | _, .cons h t, d, hd => by
    rcases List.mem_cons.mp hd with e | hd
    · rw [e]; exact h
    · exact t.mem d hd
theorem lay_Rr (r : Rr) : Lay 3 (dRr r) := .tup (Lays.mem (.cons .dI (.cons .dI (.cons .dI (.cons .dI (.cons .dPs (.cons .int (.cons .dI .nil))))))))
theorem sh_Rr (r : Rr) : SeqAt.shaped (dRr r) = true := (lay_Rr r).sh (by decide)
theorem sc_Run_eq : FnScope ["self", "other"] ["self", "other"] (defScope s_Run_eq) := ⟨rfl, rfl, rfl, by decide +kernel, rfl, by decide +kernel, by decide +kernel⟩
def spRunEq (K : PySem.W.Frag) : Sp := spP (fun _ : Rr => True) (fun r => [tRun K r, tRun K r]) (fun _ => tD K (.bool true))
theorem gc_isRun (T : Txt K mg) {r : Rr} : Gc (rIsi K) [tRun K r, tV (.ref (He.ga K "Run"))] (tD K (.bool true)) := fun vs H Q hv q => by
  obtain ⟨v, u, rfl, h, rfl⟩ := hv.two
  obtain ⟨a, dx, fs, e, h1, _⟩ := h
  subst e
  exact ⟨_, _, _, _, true, rfl, .own _, isi_ty T.ex.isi T.c_Run h1, if_pos (beq_self_eq_true _), q _ H (.refl H) (.bl _)⟩
theorem c_Run_eq (T : Txt K mg) : ∃ fd ps, FnOk P w K mg base CX0 2 (He.ma K (cRun K) "__eq__") fd ps (spRunEq K) ∧ Binds K fd ps [] := by
  obtain ⟨fd, F⟩ := T.d_Run_eq
  refine ⟨fd, ["self", "other"], ?_, F.bindsN (fun _ _ _ _ _ _ us hl => match us, hl with | [_, _], _ => rfl)⟩
  refine pure_ok F sc_Run_eq (fun _ => rfl) fun cdv A outer s H E r hr c => ⟨_, (pss_one (ps_ret (pe_and (pe_callB (id := "isinstance") (r := rIsi K) call_isi (by rfl) T.f_isinstance (by decide +kernel) (pa_cons (pv 1) (pa_cons (pe_glob (v := .ref (He.ga K "Run")) rfl T.g_Run rfl) pa_nil))) (pe_one (pe_cmpR (r := rEqD K) (op_eqD hr.units) (pe_calM0 (c_Run_all_told T) T.c_Run hr (by decide) (pv 0)) (pe_calM0 (c_Run_all_told T) T.c_Run hr (by decide) (pv 1)) (nomark _)))))), fun M D rt nn => ?_⟩
  try dsimp only [Cx.nox, cxOf, ent, List.map, List.length_cons, List.length_nil, List.replicate_succ, List.replicate_zero, List.cons_append, List.nil_append, List.set]
  refine go_retD rt (gv_and (gv_cb (ga_cons (gv_var rfl) (ga_cons (gv_c fun _ => rfl) ga_nil)) (gc_isRun T)) fun _ => gv_eqD (gv_meth r (gv_var rfl) (by rfl) ga_nil rfl trivial) (gv_meth r (gv_var rfl) (by rfl) ga_nil rfl trivial) (sh_Rr r) (sh_Rr r)) ?_
  rw [SeqAt.eqv_refl _ (lay_Rr r).c]
  rfl
/-- one run != another -/
def rRunNe (K : PySem.W.Frag) : R2 := rNeO (cRun K) (spRunEq K) E0
theorem op_runNe {X : Cx} {j : Nat} (T : Txt X.K X.mg) (hr : Room j X.A) (hj : 3 ≤ j) : OpR X (compareOp .NotEq) (rRunNe X.K) := by
  obtain ⟨fd, ps, F, b⟩ := c_Run_eq (P := X.prog) (w := X.w) (base := X.base) T
  exact op_neO F T.ex.ne T.ex.eq (hr.mono hj) b pass0
theorem gv_runNe {r : Rr} (a : Gv Γ ta (tRun K r)) (b : Gv Γ tb (tRun K r)) : Gv Γ (tOp (rRunNe K) ta tb) (tD K (.bool false)) := gv_op a b fun x y H Q hx hy q => by
  obtain ⟨a, dx, fs, e1, h1, h2⟩ := id hx
  obtain ⟨b, dy, gs, e2, h3, h4⟩ := id hy
  subst e1 e2
  exact ⟨a, b, dx, dy, fs, gs, rfl, rfl, h1, h3, r, trivial, .cons hx (.cons hy .nil), fun v H' e hv => ⟨true, Du.bl_inv hv, q _ H' e (.bl _)⟩⟩
end
end RP
set_option maxHeartbeats 4000000
namespace RP
open PySem PySem.Spec PyProof.Rows L2
section
variable {P : Program} {w : World} {K : PySem.W.Frag} {mg : Str → Option Value} {base : Heap} {Γ : Ctx} {ta tb tc td te tf' tv : TE}
/-! ### walks -/
structure Wx where
  t : Tk
  o : Op
  c : Cz
  a : Addr
  dx : Addr
  l1 : Addr
  l2 : Addr
  l3 : Addr
  l4 : Addr
  l5 : Addr
  l6 : Addr
def Wx.ch (x : Wx) : Ch := fun n k r l => x.c.rt x.t ⟨n, k, r, l⟩
abbrev p2 (q : Int × Int) : PyData := .tuple [.int q.1, .int q.2]
abbrev fWk (P : Program) (w : World) (K : PySem.W.Frag) (mg : Str → Option Value) (base : Heap) (x : Wx) (W : Wk) : List (Str × Ty) :=
  [("talk_walked", tTalk K x.t), ("chooser_asked", tCz P w K mg base x.t.N x.c), ("limits", tD K (.tuple [.int x.o.beg, .int x.o.aga, .int x.o.mst])), ("waiting", tD K (.int x.o.wai)), ("opening", tD K .none), ("stand_here", tD K (dSd W.s)), ("beat_here", tD K (.int (W.b : Nat))), ("rate_last", tD K (dO W.rl)), ("speed_last", tSp K W.sl),
   ("rates", tV (.ref x.l1)), ("begun", tV (.ref x.l2)), ("whole", tV (.ref x.l3)), ("plays", tV (.ref x.l4)), ("stalls", tV (.ref x.l5)), ("kept", tV (.ref x.l6))]
abbrev lWk (x : Wx) (W : Wk) : List (Addr × List PyData) := [(x.l1, W.rates.map .int), (x.l2, W.begun.map .int), (x.l3, W.whole.map .int), (x.l4, W.plays.map .int), (x.l5, W.stalls.map p2), (x.l6, W.kept.map .int)]
abbrev mWk (P : Program) (w : World) (K : PySem.W.Frag) (mg : Str → Option Value) (base : Heap) (x : Wx) (W : Wk) : Mo := ⟨fWk P w K mg base x W, lWk x W⟩
abbrev tWk (P : Program) (w : World) (K : PySem.W.Frag) (mg : Str → Option Value) (base : Heap) (x : Wx) (W : Wk) : Ty := tM K (cWalk K) x.a x.dx (mWk P w K mg base x W)
abbrev nsWk : List Str := ["talk_walked", "chooser_asked", "limits", "waiting", "opening", "stand_here", "beat_here", "rate_last", "speed_last", "rates", "begun", "whole", "plays", "stalls", "kept"]
abbrev aWk (x : Wx) : List Addr := [x.a, x.l1, x.l2, x.l3, x.l4, x.l5, x.l6]
theorem fWk_fx {x : Wx} {W : Wk} : ∀ q ∈ fWk P w K mg base x W, q.2.Fx := FldFx.mem (.cons tTalk_fx (.cons tCz_fx (.cons tD_fx (.cons tD_fx (.cons tD_fx (.cons tD_fx (.cons tD_fx (.cons tD_fx (.cons tSp_fx (.cons tV_fx (.cons tV_fx (.cons tV_fx (.cons tV_fx (.cons tV_fx (.cons tV_fx .nil)))))))))))))))
section
variable {x : Wx} {W : Wk} {j : Nat} (hj : Γ[j]? = some (some (tWk P w K mg base x W)))
include hj
theorem gv_W_talk (T : Txt K mg) : Gv Γ (tFld K (tVar j) "talk_walked") (tTalk K x.t) := gv_fldM hj T.c_Walk T.n_Walk_talk_walked (by rfl)
theorem gv_W_chooser (T : Txt K mg) : Gv Γ (tFld K (tVar j) "chooser_asked") (tCz P w K mg base x.t.N x.c) := gv_fldM hj T.c_Walk T.n_Walk_chooser_asked (by rfl)
theorem gv_W_limits (T : Txt K mg) : Gv Γ (tFld K (tVar j) "limits") (tD K (.tuple [.int x.o.beg, .int x.o.aga, .int x.o.mst])) := gv_fldM hj T.c_Walk T.n_Walk_limits (by rfl)
theorem gv_W_wait (T : Txt K mg) : Gv Γ (tFld K (tVar j) "waiting") (tD K (.int x.o.wai)) := gv_fldM hj T.c_Walk T.n_Walk_waiting (by rfl)
theorem gv_W_opening (T : Txt K mg) : Gv Γ (tFld K (tVar j) "opening") (tD K .none) := gv_fldM hj T.c_Walk T.n_Walk_opening (by rfl)
theorem gv_W_stand (T : Txt K mg) : Gv Γ (tFld K (tVar j) "stand_here") (tD K (dSd W.s)) := gv_fldM hj T.c_Walk T.n_Walk_stand_here (by rfl)
theorem gv_W_beat (T : Txt K mg) : Gv Γ (tFld K (tVar j) "beat_here") (tD K (.int (W.b : Nat))) := gv_fldM hj T.c_Walk T.n_Walk_beat_here (by rfl)
theorem gv_W_rate (T : Txt K mg) : Gv Γ (tFld K (tVar j) "rate_last") (tD K (dO W.rl)) := gv_fldM hj T.c_Walk T.n_Walk_rate_last (by rfl)
theorem gv_W_speed (T : Txt K mg) : Gv Γ (tFld K (tVar j) "speed_last") (tSp K W.sl) := gv_fldM hj T.c_Walk T.n_Walk_speed_last (by rfl)
theorem gv_W_rates (T : Txt K mg) : Gv Γ (tFld K (tVar j) "rates") (tL K (W.rates.map .int)) := gv_fldL (i := 0) hj T.c_Walk T.n_Walk_rates (by rfl) rfl
theorem gv_W_begun (T : Txt K mg) : Gv Γ (tFld K (tVar j) "begun") (tL K (W.begun.map .int)) := gv_fldL (i := 1) hj T.c_Walk T.n_Walk_begun (by rfl) rfl
theorem gv_W_whole (T : Txt K mg) : Gv Γ (tFld K (tVar j) "whole") (tL K (W.whole.map .int)) := gv_fldL (i := 2) hj T.c_Walk T.n_Walk_whole (by rfl) rfl
theorem gv_W_plays (T : Txt K mg) : Gv Γ (tFld K (tVar j) "plays") (tL K (W.plays.map .int)) := gv_fldL (i := 3) hj T.c_Walk T.n_Walk_plays (by rfl) rfl
theorem gv_W_stalls (T : Txt K mg) : Gv Γ (tFld K (tVar j) "stalls") (tL K (W.stalls.map p2)) := gv_fldL (i := 4) hj T.c_Walk T.n_Walk_stalls (by rfl) rfl
theorem gv_W_kept (T : Txt K mg) : Gv Γ (tFld K (tVar j) "kept") (tL K (W.kept.map .int)) := gv_fldL (i := 5) hj T.c_Walk T.n_Walk_kept (by rfl) rfl
theorem gv_W_standS {s : Sd} (hr : W.s = s) (T : Txt K mg) : Gv Γ (tFld K (tVar j) "stand_here") (tD K (dSd s)) := by
  have z := gv_W_stand hj T
  rw [hr] at z
  exact z
theorem gv_W_beatS {b : Nat} (hr : W.b = b) (T : Txt K mg) : Gv Γ (tFld K (tVar j) "beat_here") (tD K (.int (b : Nat))) := by
  have z := gv_W_beat hj T
  rw [hr] at z
  exact z
theorem gv_W_rateS {r : Int} (hr : W.rl = some r) (T : Txt K mg) : Gv Γ (tFld K (tVar j) "rate_last") (tD K (.int r)) := by
  have z := gv_W_rate hj T
  rw [hr] at z
  exact z
variable {H0 : Hp} {S : List Addr} {D : Ends} {u : TS} {R : Ty} {f : Str}
/-- self.f = e -/
theorem mw_fld (W' : Wk) (T : Txt K mg) (he : Gv Γ tv R) (hn : NoAttr K (cWalk K) f) (o : OFx j Γ) (px : R.Fx) (hm : (⟨putT f R (fWk P w K mg base x W), lWk x W⟩ : Mo) = mWk P w K mg base x W') (hS : x.a ∈ S)
    (k : Nx (Hm.fr H0 S) (Γ.set j (some (tWk P w K mg base x W'))) D.nx) : Go (Hm.fr H0 S) Γ D (sFld K (tVar j) tv f) := by
  refine m_fld hj he T.c_Walk hn o fWk_fx px nsWk rfl (by decide +kernel) hS ?_
  rw [show (⟨putT f R (mWk P w K mg base x W).fs, (mWk P w K mg base x W).ls⟩ : Mo) = mWk P w K mg base x W' from hm]
  exact k
theorem qw_fld (W' : Wk) (T : Txt K mg) (he : Gv Γ tv R) (hn : NoAttr K (cWalk K) f) (o : OFx j Γ) (px : R.Fx) (hm : (⟨putT f R (fWk P w K mg base x W), lWk x W⟩ : Mo) = mWk P w K mg base x W') (hS : x.a ∈ S)
    (k : Go (Hm.fr H0 S) (Γ.set j (some (tWk P w K mg base x W'))) D u) : Go (Hm.fr H0 S) Γ D (tSeq (sFld K (tVar j) tv f) u) := mw_fld (D := { D with nx := u D }) hj W' T he hn o px hm hS k
theorem mw_app {i : Nat} {l : Addr} {ds : List PyData} {d : PyData} (W' : Wk) (T : Txt K mg) (hl : (fWk P w K mg base x W).lookup f = some (tV (.ref l))) (hi : (lWk x W)[i]? = some (l, ds)) (he : Gv Γ te (tD K d)) (hz : ds.length ≤ 1000) (hn : NoAttr K (cWalk K) f) (o : OFx j Γ) (hS : l ∈ S) (hm : (⟨fWk P w K mg base x W, (lWk x W).set i (l, ds ++ [d])⟩ : Mo) = mWk P w K mg base x W')
    (k : Nx (Hm.fr H0 S) (Γ.set j (some (tWk P w K mg base x W'))) D.nx) : Go (Hm.fr H0 S) Γ D (tDrop (tBM K "list" rAppend (tFld K (tVar j) f) (tCons te tNil))) := by
  refine m_app hj hl hi he hz T.c_Walk hn o fWk_fx hS ?_
  rw [show (⟨(mWk P w K mg base x W).fs, (mWk P w K mg base x W).ls.set i (l, ds ++ [d])⟩ : Mo) = mWk P w K mg base x W' from hm]
  exact k
theorem qw_app {i : Nat} {l : Addr} {ds : List PyData} {d : PyData} (W' : Wk) (T : Txt K mg) (hl : (fWk P w K mg base x W).lookup f = some (tV (.ref l))) (hi : (lWk x W)[i]? = some (l, ds)) (he : Gv Γ te (tD K d)) (hz : ds.length ≤ 1000) (hn : NoAttr K (cWalk K) f) (o : OFx j Γ) (hS : l ∈ S) (hm : (⟨fWk P w K mg base x W, (lWk x W).set i (l, ds ++ [d])⟩ : Mo) = mWk P w K mg base x W')
    (k : Go (Hm.fr H0 S) (Γ.set j (some (tWk P w K mg base x W'))) D u) : Go (Hm.fr H0 S) Γ D (tSeq (tDrop (tBM K "list" rAppend (tFld K (tVar j) f) (tCons te tNil))) u) := mw_app (D := { D with nx := u D }) hj W' T hl hi he hz hn o hS hm k
end
theorem sc_Walk_is_at_end : FnScope ["self"] ["self"] (defScope s_Walk_is_at_end) := ⟨rfl, rfl, rfl, by decide +kernel, rfl, by decide +kernel, by decide +kernel⟩
structure Wi where
  x : Wx
  W : Wk
def spAtEnd (P : Program) (w : World) (K : PySem.W.Frag) (mg : Str → Option Value) (base : Heap) : Sp := spP (fun i : Wi => TOk i.x.t) (fun i => [tWk P w K mg base i.x i.W]) (fun i => tD K (.bool (decide (over i.x.t i.W.s))))
theorem c_Walk_is_at_end (T : Txt K mg) : CalM P w K mg base (cWalk K) "is_at_end" 4 (spAtEnd P w K mg base) := by
  obtain ⟨fd, F⟩ := T.d_Walk_is_at_end
  refine ⟨_, fd, ["self"], ?_, T.m_Walk_is_at_end, F.bindsN (fun _ _ _ _ _ _ us hl => match us, hl with | [_], _ => rfl)⟩
  refine pure_ok F sc_Walk_is_at_end (fun _ => rfl) fun cdv A outer s H E i hr c => ⟨_, (pss_one (ps_ret (pe_cal (c_is_over T) hr (by decide) rfl (pa_cons (pe_fld (pv 0) rfl) (pa_cons (pe_fld (pv 0) rfl) pa_nil))))), fun M D r nn => ?_⟩
  try dsimp only [Cx.nox, cxOf, ent, List.map, List.length_cons, List.length_nil, List.replicate_succ, List.replicate_zero, List.cons_append, List.nil_append, List.set]
  exact go_retD r (r_is_over (s := i.W.s) (gv_W_talk rfl T) (gv_W_stand rfl T) (TOk.tot0 c)) rfl
theorem r_at_end {x : Wx} {W : Wk} {j : Nat} (hj : Γ[j]? = some (some (tWk P w K mg base x W))) (c : TOk x.t) : Gv Γ (tMeth (cWalk K) "is_at_end" (spAtEnd P w K mg base) [] E0 (tVar j) tNil) (tD K (.bool (decide (over x.t W.s)))) := gv_methM (ι := Wi) ⟨x, W⟩ hj (by rfl) ga_nil rfl c
theorem sc_Walk_asks_here : FnScope ["self", "number", "coming", "others"] ["self"] (defScope s_Walk_asks_here) := ⟨rfl, rfl, rfl, by decide +kernel, rfl, by decide +kernel, by decide +kernel⟩
def spAsksH (P : Program) (w : World) (K : PySem.W.Frag) (mg : Str → Option Value) (base : Heap) : Sp := spP (fun i : Wi => TOk i.x.t) (fun i => [tWk P w K mg base i.x i.W]) (fun i => tD K (.bool (asks i.x.t i.x.o i.W.s)))
theorem c_Walk_asks_here (T : Txt K mg) : CalM P w K mg base (cWalk K) "asks_here" 2 (spAsksH P w K mg base) := by
  obtain ⟨fd, F⟩ := T.d_Walk_asks_here
  refine ⟨_, fd, ["self"], ?_, T.m_Walk_asks_here, F.bindsN (fun _ _ _ _ _ _ us hl => match us, hl with | [_], _ => rfl)⟩
  refine pure_ok F sc_Walk_asks_here (fun _ => rfl) fun cdv A outer s H E i hr c => ⟨_, (pss_cons (ps_asg (pe_fld (pv 0) rfl) (pg_star (n := 3) (i := 2) rfl (pgs_cons (pg_name (i := 1) sc_Walk_asks_here.nd rfl (Or.inl rfl)) (pgs_cons (pg_name (i := 2) sc_Walk_asks_here.nd rfl (Or.inl rfl)) (pgs_star (pg_name (i := 3) sc_Walk_asks_here.nd rfl (Or.inl rfl)) pgs_nil))))) (pss_cons (ps_if (PW.pt (pw_or (pt_cmpR op_ne (pv 2) (pe_glob (v := .int (-1)) rfl T.i_NONE.choose_spec ⟨_, rfl⟩) (nomark _)) (pw_or1 (pt_not (pt_val (pe_cal (c_has_room T) hr (by decide) rfl (pa_cons (pe_fld (pv 0) rfl) (pa_cons (pe_fld (pv 0) rfl) (pa_cons (pe_ix (r := rIxT K) ix_tup (pe_fld (pv 0) rfl) pe_int (fun _ _ => rfl)) pa_nil))))))))) (pss_one (ps_ret pe_bl)) pss_nil) (pss_one (ps_ret (pe_or (pe_cmpR op_isN (pe_fld (pv 0) rfl) pe_non (nomark _)) (pe_one (pe_cmpR op_le (pe_ix (r := rIxT K) ix_tup (pe_fld (pv 0) rfl) (pv 1) (fun _ _ => rfl)) (pe_fld (pv 0) rfl) (nomark _)))))))), fun M D r nn => ?_⟩
  try dsimp only [Cx.nox, cxOf, ent, List.map, List.length_cons, List.length_nil, List.replicate_succ, List.replicate_zero, List.cons_append, List.nil_append, List.set]
  obtain ⟨x, W⟩ := i
  refine q_asg (gv_W_stand rfl T) (gt_star0 (first := [.int W.s.n, .int W.s.c]) (mids := [.int W.s.g, .int W.s.k, .int W.s.p, .int W.s.w]) (gts_cons gt_name (gts_cons gt_name (gts_cons gt_name gts_nil))) rfl rfl (Nat.le_of_ble_eq_true rfl)) ?_
  try dsimp only [List.set]
  have e : asks x.t x.o W.s = (decide (W.s.c = -1) && rm x.t W.s x.o.mst) := rfl
  refine q_when (b := !(asks x.t x.o W.s)) (Gb.eq (gb_or (gb_val (gv_neI (i := W.s.c) (j := -1) (gv_var rfl) gv_int)) fun _ => gb_not (gb_val (r_has_room (s := W.s) (m := x.o.mst) (gv_W_talk rfl T) (gv_W_stand rfl T) (gv_ixN (ds := [.int x.o.beg, .int x.o.aga, .int x.o.mst]) (j := 2) (d := .int x.o.mst) (gv_W_limits rfl T) gv_int rfl rfl)))) (by rw [e, Bool.not_and])) (fun h => ?_) (fun h => ?_)
  · refine go_retD r gv_bl ?_
    show PyData.bool false = .bool (asks x.t x.o W.s)
    cases q : asks x.t x.o W.s with
    | true => rw [q] at h; cases h
    | false => rfl
  · refine go_retD r (gv_or (b := true) (c := true) (gv_isN (d := .none) rfl (gv_W_opening rfl T) gv_non) fun z => nomatch z) ?_
    show PyData.bool true = .bool (asks x.t x.o W.s)
    cases q : asks x.t x.o W.s with
    | true => rfl
    | false => rw [q] at h; cases h
theorem r_asks_here {x : Wx} {W : Wk} {j : Nat} (hj : Γ[j]? = some (some (tWk P w K mg base x W))) (c : TOk x.t) : Gv Γ (tMeth (cWalk K) "asks_here" (spAsksH P w K mg base) [] E0 (tVar j) tNil) (tD K (.bool (asks x.t x.o W.s))) := gv_methM (ι := Wi) ⟨x, W⟩ hj (by rfl) ga_nil rfl c
theorem sc_Walk_choose_here : FnScope ["self", "seen"] ["self"] (defScope s_Walk_choose_here) := ⟨rfl, rfl, rfl, by decide +kernel, rfl, by decide +kernel, by decide +kernel⟩
structure WiOk (i : Wi) : Prop where
  t : TOk i.x.t
  o : OOk i.x.t i.x.o
  c : i.x.c.ok i.x.t.N
  W : WOk i.x.t i.x.o i.W
  b : i.W.b ≤ 900
abbrev adW (i : Wi) : Addr × Addr := (i.x.a, i.x.dx)
def spChooseH (P : Program) (w : World) (K : PySem.W.Frag) (mg : Str → Option Value) (base : Heap) : Sp := spM K (cWalk K) WiOk adW (fun i => mWk P w K mg base i.x i.W) (fun i => mWk P w K mg base i.x (choose i.x.t i.x.o i.x.ch i.W)) (fun _ => [])
theorem c_Walk_choose_here (T : Txt K mg) : CalM P w K mg base (cWalk K) "choose_here" 5 (spChooseH P w K mg base) := by
  obtain ⟨fd, F⟩ := T.d_Walk_choose_here
  refine ⟨_, fd, ["self"], ?_, T.m_Walk_choose_here, F.bindsN (fun _ _ _ _ _ _ us hl => match us, hl with | [_], _ => rfl)⟩
  refine mut_ok F sc_Walk_choose_here (fun _ => rfl) fun cdv A outer s H E i hr c => ⟨_, (pss_one (ps_if (pt_val (pe_calM0 (c_Walk_asks_here T) T.c_Walk hr (by decide) (pv 0))) (pss_cons (ps_set (i := 1) sc_Walk_choose_here.nd rfl (Or.inl rfl) (pe_cal (c_seen_at T) hr (by decide) rfl (pa_cons (pe_fld (pv 0) rfl) (pa_cons (pe_fld (pv 0) rfl) (pa_cons (pe_fld (pv 0) rfl) pa_nil))))) (pss_cons (ps_fld (pv 0) (pe_cal (c_rate_by T) hr (by decide) rfl (pa_cons (pe_fld (pv 0) rfl) (pa_cons (pe_fld (pv 0) rfl) (pa_cons (pv 1) pa_nil)))) rfl) (pss_cons (ps_fld (pv 0) (pe_calK (ck_chosen T) hr (by decide) rfl (pa_cons (pe_fld (pv 0) rfl) (pa_cons (pe_fld (pv 0) rfl) pa_nil)) (pk_cons (pe_fld (pv 0) rfl) pk_nil)) rfl) (pss_cons (ps_expr (pe_bm PySem.F.plainAttrs_list PySem.F.slot_list_append PySem.F.type_list_append mt_append (pe_fld (pv 0) rfl) (pa_cons (pe_fld (pv 0) rfl) pa_nil))) (pss_one (ps_expr (pe_bm PySem.F.plainAttrs_list PySem.F.slot_list_append PySem.F.type_list_append mt_append (pe_fld (pv 0) rfl) (pa_cons (pe_fld (pv 0) rfl) pa_nil)))))))) pss_nil)), fun D k => ?_⟩
  try dsimp only [Cx.nox, cxOf, ent, List.map, List.length_cons, List.length_nil, List.replicate_succ, List.replicate_zero, List.cons_append, List.nil_append, List.set]
  obtain ⟨x, W⟩ := i
  have ct : TOk x.t := c.t
  have cW : WOk x.t x.o W := c.W
  have hb : W.b ≤ 900 := c.b
  refine go_if (gb_val (r_asks_here rfl ct)) (fun h => ?_) (fun h => ?_)
  · have hn : W.s.n < x.t.N := (asks_iff.mp h).2.1
    have hc : W.s.c = -1 := (asks_iff.mp h).1
    have hl := cW.rl
    have hl2 := cW.bl
    rw [if_pos hc] at hl hl2
    have h6 := ct.len6
    have hN : x.t.N ≤ 6 := ct.le
    have hsl : ∀ q, W.sl = some q → SpOk q := fun q hq => by
      obtain ⟨_, h1, h2⟩ := cW.sl q hq
      exact ⟨h1, by omega⟩
    refine q_set (r_seen_at (s := W.s) (gv_W_stand rfl T) (gv_W_rate rfl T) (gv_W_speed rfl T)) ?_
    try dsimp only [List.set]
    refine qw_fld (W := W) rfl { W with rl := some (x.ch W.s.n W.s.k W.rl W.sl) } T (r_rate_by (gv_W_talk rfl T) (gv_W_chooser rfl T) (gv_var rfl) ct c.c ⟨hn, hsl⟩) T.n_Walk_rate_last (.here (.yes tSn_fx .nil)) tD_fx rfl (List.mem_cons_self ..) ?_
    try dsimp only [List.set]
    refine qw_fld (W := { W with rl := some (x.ch W.s.n W.s.k W.rl W.sl) }) rfl { W with rl := some (x.ch W.s.n W.s.k W.rl W.sl), s := chos x.o W.s (x.ch W.s.n W.s.k W.rl W.sl) } T (r_chosen (s := W.s) (r := x.ch W.s.n W.s.k W.rl W.sl) (wt := x.o.wai) (gv_W_standS (W := { W with rl := some (x.ch W.s.n W.s.k W.rl W.sl) }) rfl rfl T) (gv_W_rateS (W := { W with rl := some (x.ch W.s.n W.s.k W.rl W.sl) }) rfl rfl T) (gv_W_wait rfl T)) T.n_Walk_stand_here (.here (.yes tSn_fx .nil)) tD_fx rfl (List.mem_cons_self ..) ?_
    try dsimp only [List.set]
    refine qw_app (W := { W with rl := some (x.ch W.s.n W.s.k W.rl W.sl), s := chos x.o W.s (x.ch W.s.n W.s.k W.rl W.sl) }) (i := 0) (l := x.l1) (ds := W.rates.map .int) (d := .int (x.ch W.s.n W.s.k W.rl W.sl)) rfl { W with rl := some (x.ch W.s.n W.s.k W.rl W.sl), s := chos x.o W.s (x.ch W.s.n W.s.k W.rl W.sl), rates := W.rates ++ [x.ch W.s.n W.s.k W.rl W.sl] } T (by rfl) rfl (gv_W_rateS (W := { W with rl := some (x.ch W.s.n W.s.k W.rl W.sl), s := chos x.o W.s (x.ch W.s.n W.s.k W.rl W.sl) }) rfl rfl T) (by rw [List.length_map]; omega) T.n_Walk_rates (.here (.yes tSn_fx .nil)) (by simp [Mo.adr]) (by dsimp only [mWk, lWk, List.set]; rw [List.map_append]; rfl) ?_
    try dsimp only [List.set]
    refine mw_app (W := { W with rl := some (x.ch W.s.n W.s.k W.rl W.sl), s := chos x.o W.s (x.ch W.s.n W.s.k W.rl W.sl), rates := W.rates ++ [x.ch W.s.n W.s.k W.rl W.sl] }) (i := 1) (l := x.l2) (ds := W.begun.map .int) (d := .int W.b) rfl (choose x.t x.o x.ch W) T (by rfl) rfl (gv_W_beatS (W := { W with rl := some (x.ch W.s.n W.s.k W.rl W.sl), s := chos x.o W.s (x.ch W.s.n W.s.k W.rl W.sl), rates := W.rates ++ [x.ch W.s.n W.s.k W.rl W.sl] }) rfl rfl T) (by rw [List.length_map]; omega) T.n_Walk_begun (.here (.yes tSn_fx .nil)) (by simp [Mo.adr]) (by unfold choose; rw [if_pos h]; dsimp only [mWk, lWk, List.set]; rw [List.map_append, List.map_append]; rfl) ?_
    try dsimp only [List.set]
    intro σ H' hM hs
    obtain ⟨v, h1, h2⟩ := hs.at_ 0 _ rfl
    obtain rfl := h2.1
    exact k σ H' hM h2
  · intro σ H' hM hs
    obtain ⟨v, h1, h2⟩ := hs.at_ 0 _ rfl
    obtain rfl := h2.1
    refine k σ H' hM ?_
    have e : choose x.t x.o x.ch W = W := by
      unfold choose
      rw [if_neg (by rw [h]; decide)]
    dsimp only
    rw [e]
    exact h2
end
end RP
set_option maxHeartbeats 4000000
namespace RP
open PySem PySem.Spec PyProof.Rows L2
section
variable {P : Program} {w : World} {K : PySem.W.Frag} {mg : Str → Option Value} {base : Heap} {Γ : Ctx} {ta tb tc td te tf' tv : TE}
section
variable {x : Wx} {W : Wk} {j : Nat} (hj : Γ[j]? = some (some (tWk P w K mg base x W)))
variable {H0 : Hp} {S : List Addr} {D : Ends} {u : TS} {R : Ty} {f : Str}
include hj
/-- a, b = self.stalls.pop() -/
theorem qw_pop {Γ2 : Ctx} {ss : List (Int × Int)} {q : Int × Int} {gs : TGs} (W' : Wk) (T : Txt K mg) (hw : W.stalls = ss ++ [q]) (hm : W' = { W with stalls := ss }) (o : OFx j Γ) (hS : x.l5 ∈ S)
    (hg : Gts (Γ.set j (some (tWk P w K mg base x W'))) gs [tD K (.int q.1), tD K (.int q.2)] Γ2) (k : Go (Hm.fr H0 S) Γ2 D u) : Go (Hm.fr H0 S) Γ D (tSeq (tAsg (tBM0 K "list" rPop (tFld K (tVar j) "stalls")) (gTup K 2 gs)) u) := by
  subst hm
  refine mq_pop (i := 4) (n := 2) (l := x.l5) (ds := ss.map p2) (es := [.int q.1, .int q.2]) hj (by rfl) ?_ T.c_Walk T.n_Walk_stalls o fWk_fx hS rfl hg k
  show some (x.l5, W.stalls.map p2) = _
  rw [hw, List.map_append]
  rfl
/-- self.beat_here += 1 -/
theorem qw_beat {rd : V → V → Hp → VK → Prop} (W' : Wk) (T : Txt K mg) (hrd : rd = fun x y H Q => ∃ i j, x = .int i ∧ y = .int j ∧ Q (.int (i + j)) H) (he : Gv Γ tv (tD K (.int 1))) (hm : W' = { W with b := W.b + 1 }) (o : OFx j Γ) (hS : x.a ∈ S)
    (k : Go (Hm.fr H0 S) (Γ.set j (some (tWk P w K mg base x W'))) D u) : Go (Hm.fr H0 S) Γ D (tSeq (sFldAug K (tVar j) tv rd "beat_here") u) := by
  subst hm
  exact mq_aug (g := fun i j => i + j) (x := (W.b : Int)) (y := 1) hrd hj (by rfl) he T.c_Walk T.n_Walk_beat_here o fWk_fx nsWk rfl (by decide +kernel) hS k
end
theorem snoc_of {α : Type} {l : List α} (h : l ≠ []) : ∃ i q, l = i ++ [q] := ⟨l.dropLast, l.getLast h, (List.dropLast_concat_getLast h).symm⟩
theorem bump_snoc (l : List (Int × Int)) (q : Int × Int) : bump (l ++ [q]) = l ++ [(q.1, q.2 + 1)] := by
  unfold bump
  simp
theorem sc_Walk_step_on : FnScope ["self", "speed", "begin", "again", "most", "ahead", "first", "many", "size"] ["self", "speed"] (defScope s_Walk_step_on) := ⟨rfl, rfl, rfl, by decide +kernel, rfl, by decide +kernel, by decide +kernel⟩
structure Ws where
  x : Wx
  W : Wk
  v : Int
structure WsOk (i : Ws) : Prop where
  w : WiOk ⟨i.x, i.W⟩
  no : ¬ over i.x.t i.W.s
  v : 0 ≤ i.v
def stW (x : Wx) (W : Wk) (v : Int) : List (Int × Int) := if W.s.p < (beat x.t x.o W.s v).p then W.stalls else if (beat x.t x.o W.s v).w = 2 then bump (if W.s.w = 1 then W.stalls ++ [((W.b : Int), 0)] else W.stalls) else W.stalls
def plW (x : Wx) (W : Wk) (v : Int) : List Int := if W.s.p < (beat x.t x.o W.s v).p then W.plays ++ [(W.b : Int)] else W.plays
abbrev W1 (x : Wx) (W : Wk) (v : Int) : Wk := { W with s := beat x.t x.o W.s v }
abbrev W2 (x : Wx) (W : Wk) (v : Int) : Wk := { W with s := beat x.t x.o W.s v, plays := plW x W v, stalls := stW x W v }
abbrev W3 (x : Wx) (W : Wk) (v : Int) : Wk := { W with s := beat x.t x.o W.s v, plays := plW x W v, stalls := stW x W v, b := W.b + 1 }
abbrev W4 (x : Wx) (W : Wk) (v : Int) : Wk := { W with s := beat x.t x.o W.s v, plays := plW x W v, stalls := stW x W v, b := W.b + 1, kept := W.kept ++ [(beat x.t x.o W.s v).k] }
abbrev W5 (x : Wx) (W : Wk) (v : Int) : Wk := { W with s := beat x.t x.o W.s v, plays := plW x W v, stalls := stW x W v, b := W.b + 1, kept := W.kept ++ [(beat x.t x.o W.s v).k], whole := W.whole ++ [(W.b : Int) + 1] }
abbrev W6 (x : Wx) (W : Wk) (v : Int) : Wk := { W with s := beat x.t x.o W.s v, plays := plW x W v, stalls := stW x W v, b := W.b + 1, kept := W.kept ++ [(beat x.t x.o W.s v).k], whole := W.whole ++ [(W.b : Int) + 1], sl := some (x.t.S W.s.n W.s.c, (W.b : Int) + 1 - W.begun.getLastD 0) }
def spStepOn (P : Program) (w : World) (K : PySem.W.Frag) (mg : Str → Option Value) (base : Heap) : Sp := spM K (cWalk K) WsOk (fun i => (i.x.a, i.x.dx)) (fun i => mWk P w K mg base i.x i.W) (fun i => mWk P w K mg base i.x (step i.x.t i.x.o i.W i.v)) (fun i => [tD K (.int i.v)])
theorem gv_sd (K : PySem.W.Frag) {s : Sd} {i : Int} {j : Nat} {d : PyData} (h : Gv Γ ta (tD K (dSd s))) (hb : Gv Γ tb (tD K (.int i))) (e : i = (j : Int)) (hd : [PyData.int s.n, .int s.c, .int s.g, .int s.k, .int s.p, .int s.w][j]? = some d) : Gv Γ (tOp (rIxT K) ta tb) (tD K d) := gv_ixN (ds := [.int s.n, .int s.c, .int s.g, .int s.k, .int s.p, .int s.w]) h hb e hd
theorem c_Walk_step_on (T : Txt K mg) : CalM P w K mg base (cWalk K) "step_on" 5 (spStepOn P w K mg base) := by
  obtain ⟨fd, F⟩ := T.d_Walk_step_on
  refine ⟨_, fd, ["self", "speed"], ?_, T.m_Walk_step_on, F.bindsN (fun _ _ _ _ _ _ us hl => match us, hl with | [_, _], _ => rfl)⟩
  refine mut_ok F sc_Walk_step_on (fun _ => rfl) fun cdv A outer s H E i hr c => ⟨_, (pss_cons (ps_asg (pe_fld (pv 0) rfl) (pg_tup rfl (pgs_cons (pg_name (i := 2) sc_Walk_step_on.nd rfl (Or.inl rfl)) (pgs_cons (pg_name (i := 3) sc_Walk_step_on.nd rfl (Or.inl rfl)) (pgs_cons (pg_name (i := 4) sc_Walk_step_on.nd rfl (Or.inl rfl)) pgs_nil))))) (pss_cons (ps_set (i := 5) sc_Walk_step_on.nd rfl (Or.inl rfl) (pe_fld (pv 0) rfl)) (pss_cons (ps_fld (pv 0) (pe_cal (c_beat_on T) hr (by decide) rfl (pa_cons (pe_fld (pv 0) rfl) (pa_cons (pv 5) (pa_cons (pv 1) (pa_cons (pv 2) (pa_cons (pv 3) (pa_cons (pv 4) pa_nil))))))) rfl) (pss_cons (ps_if (pt_cmpR op_gt (pe_ix (r := rIxT K) ix_tup (pe_fld (pv 0) rfl) pe_int (fun _ _ => rfl)) (pe_ix (r := rIxT K) ix_tup (pv 5) pe_int (fun _ _ => rfl)) (nomark _)) (pss_one (ps_expr (pe_bm PySem.F.plainAttrs_list PySem.F.slot_list_append PySem.F.type_list_append mt_append (pe_fld (pv 0) rfl) (pa_cons (pe_fld (pv 0) rfl) pa_nil)))) (pss_one (ps_if (pt_cmpR op_eq (pe_ix (r := rIxT K) ix_tup (pe_fld (pv 0) rfl) pe_int (fun _ _ => rfl)) (pe_glob (v := .int (2)) rfl T.i_STALLS.choose_spec ⟨_, rfl⟩) (nomark _)) (pss_cons (ps_if (pt_cmpR op_eq (pe_ix (r := rIxT K) ix_tup (pv 5) pe_int (fun _ _ => rfl)) (pe_glob (v := .int (1)) rfl T.i_PLAYS.choose_spec ⟨_, rfl⟩) (nomark _)) (pss_one (ps_expr (pe_bm PySem.F.plainAttrs_list PySem.F.slot_list_append PySem.F.type_list_append mt_append (pe_fld (pv 0) rfl) (pa_cons (pe_tup (pa_cons (pe_fld (pv 0) rfl) (pa_cons pe_int pa_nil))) pa_nil)))) pss_nil) (pss_cons (ps_asg (pe_bm0 PySem.F.plainAttrs_list PySem.F.slot_list_pop PySem.F.type_list_pop mt_pop (pe_fld (pv 0) rfl)) (pg_tup rfl (pgs_cons (pg_name (i := 6) sc_Walk_step_on.nd rfl (Or.inl rfl)) (pgs_cons (pg_name (i := 7) sc_Walk_step_on.nd rfl (Or.inl rfl)) pgs_nil)))) (pss_one (ps_expr (pe_bm PySem.F.plainAttrs_list PySem.F.slot_list_append PySem.F.type_list_append mt_append (pe_fld (pv 0) rfl) (pa_cons (pe_tup (pa_cons (pv 6) (pa_cons (pe_op op_add (pv 7) pe_int) pa_nil))) pa_nil)))))) pss_nil))) (pss_cons (ps_fldaug (pv 0) pe_int in_add) (pss_cons (ps_expr (pe_bm PySem.F.plainAttrs_list PySem.F.slot_list_append PySem.F.type_list_append mt_append (pe_fld (pv 0) rfl) (pa_cons (pe_ix (r := rIxT K) ix_tup (pe_fld (pv 0) rfl) pe_int (fun _ _ => rfl)) pa_nil))) (pss_one (ps_if (pt_cmpR op_gt (pe_ix (r := rIxT K) ix_tup (pe_fld (pv 0) rfl) pe_int (fun _ _ => rfl)) (pe_ix (r := rIxT K) ix_tup (pv 5) pe_int (fun _ _ => rfl)) (nomark _)) (pss_cons (ps_expr (pe_bm PySem.F.plainAttrs_list PySem.F.slot_list_append PySem.F.type_list_append mt_append (pe_fld (pv 0) rfl) (pa_cons (pe_fld (pv 0) rfl) pa_nil))) (pss_cons (ps_set (i := 8) sc_Walk_step_on.nd rfl (Or.inl rfl) (pe_ix (r := rIxT K) ix_tup (pe_ix (r := rIxT K) ix_tup (pe_fld (pe_fld (pv 0) rfl) rfl) (pe_ix (r := rIxT K) ix_tup (pv 5) pe_int (fun _ _ => rfl)) (fun _ _ => rfl)) (pe_ix (r := rIxT K) ix_tup (pv 5) pe_int (fun _ _ => rfl)) (fun _ _ => rfl))) (pss_one (ps_fld (pv 0) (pe_calC (c_Speed_init T) hr (by decide) rfl (pa_cons (pv 8) (pa_cons (pe_op op_sub (pe_fld (pv 0) rfl) (pe_ix (r := rIxL K) ix_list (pe_fld (pv 0) rfl) (pe_un un_neg pe_int) (fun _ _ => rfl))) pa_nil))) rfl)))) pss_nil)))))))), fun D k => ?_⟩
  try dsimp only [Cx.nox, cxOf, ent, List.map, List.length_cons, List.length_nil, List.replicate_succ, List.replicate_zero, List.cons_append, List.nil_append, List.set]
  obtain ⟨x, W, v⟩ := i
  have ct : TOk x.t := c.w.t
  have cW : WOk x.t x.o W := c.w.W
  have hb : W.b ≤ 900 := c.w.b
  have hno : ¬ over x.t W.s := c.no
  refine q_asg (gv_W_limits rfl T) (gt_tup (ds := [.int x.o.beg, .int x.o.aga, .int x.o.mst]) (gts_cons gt_name (gts_cons gt_name (gts_cons gt_name gts_nil))) rfl) ?_
  try dsimp only [List.set]
  refine q_set (gv_W_stand rfl T) ?_
  try dsimp only [List.set]
  have ox : ∀ {R1 R2 R3 : Option Ty}, CtxFx [R1, R2, R3] → OFx 0 [some (tWk P w K mg base x W), some (tD K (.int v)), some (tD K (.int x.o.beg)), some (tD K (.int x.o.aga)), some (tD K (.int x.o.mst)), some (tD K (dSd W.s)), R1, R2, R3] := fun h => .here (.yes tD_fx (.yes tD_fx (.yes tD_fx (.yes tD_fx (.yes tD_fx h)))))
  have oy : ∀ {R0 R1 R2 R3 : Option Ty}, CtxFx [R1, R2, R3] → OFx 0 [R0, some (tD K (.int v)), some (tD K (.int x.o.beg)), some (tD K (.int x.o.aga)), some (tD K (.int x.o.mst)), some (tD K (dSd W.s)), R1, R2, R3] := fun h => .here (.yes tD_fx (.yes tD_fx (.yes tD_fx (.yes tD_fx (.yes tD_fx h)))))
  have n3 : CtxFx [none, none, none] := .no (.no (.no .nil))
  refine qw_fld (W := W) rfl (W1 x W v) T (r_beat_on (o := x.o) (s := W.s) (v := v) (gv_W_talk rfl T) (gv_var rfl) (gv_var rfl) (gv_var rfl) (gv_var rfl) (gv_var rfl) ct cW.s) T.n_Walk_stand_here (oy n3) tD_fx rfl (List.mem_cons_self ..) ?_
  try dsimp only [List.set]
  have hst := (step_ok ct c.w.o cW hno (x := v) c.v)
  refine q_join1 0 (tWk P w K mg base x (W2 x W v)) (gb_val (gv_b0 (gv_sd K (j := 4) (gv_W_standS (W := W1 x W v) rfl rfl T) gv_int rfl rfl) (gv_sd K (s := W.s) (j := 4) (gv_var rfl) gv_int rfl rfl))) (fun h kk => ?_) (fun h kk => ?_) ?_
  · have hp : W.s.p < (beat x.t x.o W.s v).p := of_decide_eq_true h
    refine mw_app (W := W1 x W v) (i := 3) (l := x.l4) (ds := W.plays.map .int) (d := .int W.b) rfl (W2 x W v) T (by rfl) rfl (gv_W_beatS (W := W1 x W v) rfl rfl T) (by rw [List.length_map]; have := cW.pl; omega) T.n_Walk_plays (oy n3) (by simp [Mo.adr]) ?_ kk
    dsimp only [mWk, lWk, List.set]
    unfold plW stW
    rw [if_pos hp, if_pos hp, List.map_append]
    rfl
  · have hp : ¬ W.s.p < (beat x.t x.o W.s v).p := of_decide_eq_false h
    have ep : plW x W v = W.plays := if_neg hp
    refine go_if (gb_val (gv_eqI (gv_sd K (j := 5) (gv_W_standS (W := W1 x W v) rfl rfl T) gv_int rfl rfl) gv_int)) (fun h2 => ?_) (fun h2 => ?_)
    · have hw : (beat x.t x.o W.s v).w = 2 := of_decide_eq_true h2
      have es : stW x W v = bump (if W.s.w = 1 then W.stalls ++ [((W.b : Int), 0)] else W.stalls) := by
        unfold stW
        rw [if_neg hp, if_pos hw]
      have hne : (if W.s.w = 1 then W.stalls ++ [((W.b : Int), 0)] else W.stalls) ≠ [] := by
        intro z
        have zz := hst.st hw
        apply zz
        show stW x W v = []
        rw [es, z]
        rfl
      obtain ⟨ss, q, eq⟩ := snoc_of hne
      have lw : ss.length ≤ 901 := by
        have z := congrArg List.length eq
        have := cW.tl
        rw [List.length_append] at z
        split at z
        · rw [List.length_append] at z
          simp at z
          omega
        · simp at z
          omega
      refine q_join1 0 (tWk P w K mg base x { W1 x W v with stalls := ss ++ [q] }) (gb_val (gv_eqI (gv_sd K (s := W.s) (j := 5) (gv_var rfl) gv_int rfl rfl) gv_int)) (fun h3 k3 => ?_) (fun h3 k3 => ?_) ?_
      · have e1 : W.s.w = 1 := of_decide_eq_true h3
        rw [if_pos e1] at eq
        refine mw_app (W := W1 x W v) (i := 4) (l := x.l5) (ds := W.stalls.map p2) (d := p2 ((W.b : Int), 0)) rfl { W1 x W v with stalls := ss ++ [q] } T (by rfl) rfl (gv_tupd (gd_cons (gv_W_beatS (W := W1 x W v) rfl rfl T) (gd_cons gv_int gd_nil)) rfl) (by rw [List.length_map]; have := cW.tl; omega) T.n_Walk_stalls (oy n3) (by simp [Mo.adr]) ?_ k3
        dsimp only [mWk, lWk, List.set]
        rw [← eq, List.map_append]
        rfl
      · have e1 : ¬ W.s.w = 1 := of_decide_eq_false h3
        rw [if_neg e1] at eq
        have e2 : ({ W1 x W v with stalls := ss ++ [q] } : Wk) = W1 x W v := by rw [← eq]
        rw [e2] at k3
        exact go_next k3
      try dsimp only [List.set]
      refine qw_pop (W := { W1 x W v with stalls := ss ++ [q] }) (ss := ss) (q := q) rfl { W1 x W v with stalls := ss } T rfl rfl (oy n3) (by simp [Mo.adr]) (gts_cons gt_name (gts_cons gt_name gts_nil)) ?_
      try dsimp only [List.set]
      refine mw_app (W := { W1 x W v with stalls := ss }) (i := 4) (l := x.l5) (ds := ss.map p2) (d := p2 (q.1, q.2 + 1)) rfl (W2 x W v) T (by rfl) rfl (gv_tupd (gd_cons (gv_var rfl) (gd_cons (gv_i0 (gv_var rfl) gv_int) gd_nil)) rfl) (by rw [List.length_map]; omega) T.n_Walk_stalls (oy (.yes tD_fx (.yes tD_fx (.no .nil)))) (by simp [Mo.adr]) ?_ (kk.wk (.keep (.keep (.keep (.keep (.keep (.keep (.any (.any (.keep .nil))))))))))
      dsimp only [mWk, lWk, List.set, W2]
      rw [ep, es, eq, bump_snoc, List.map_append]
      rfl
    · have hw : ¬ (beat x.t x.o W.s v).w = 2 := of_decide_eq_false h2
      have e2 : W2 x W v = W1 x W v := by
        unfold W2 plW stW
        rw [if_neg hp, if_neg hp, if_neg hw]
      rw [e2] at kk
      exact go_next kk
  try dsimp only [List.set]
  refine qw_beat (W := W2 x W v) rfl (W3 x W v) T rfl gv_int rfl (oy n3) (List.mem_cons_self ..) ?_
  try dsimp only [List.set]
  refine qw_app (W := W3 x W v) (i := 5) (l := x.l6) (ds := W.kept.map .int) (d := .int (beat x.t x.o W.s v).k) rfl (W4 x W v) T (by rfl) rfl (gv_sd K (j := 3) (gv_W_standS (W := W3 x W v) rfl rfl T) gv_int rfl rfl) (by rw [List.length_map]; have := cW.kl; omega) T.n_Walk_kept (oy n3) (by simp [Mo.adr]) (by dsimp only [mWk, lWk, List.set]; rw [List.map_append]; rfl) ?_
  try dsimp only [List.set]
  refine go_if (gb_val (gv_b0 (gv_sd K (j := 0) (gv_W_standS (W := W4 x W v) rfl rfl T) gv_int rfl rfl) (gv_sd K (s := W.s) (j := 0) (gv_var rfl) gv_int rfl rfl))) (fun h => ?_) (fun h => ?_)
  · have hn : W.s.n < (beat x.t x.o W.s v).n := Int.ofNat_lt.mp (of_decide_eq_true h)
    have hc : ¬ W.s.c = -1 := by
      rcases beat_n (T := x.t) (o := x.o) W.s v with z | ⟨_, z, _⟩
      · rw [z] at hn; exact absurd hn (Nat.lt_irrefl _)
      · exact z
    rcases cW.s.com with ⟨z, _⟩ | ⟨c0, c1, c2, _⟩
    · exact absurd z hc
    have hbl := cW.bl
    rw [if_neg hc] at hbl
    obtain ⟨bs, bq, be⟩ := snoc_of (l := W.begun) (by intro e; rw [e] at hbl; simp at hbl)
    refine qw_app (W := W4 x W v) (i := 2) (l := x.l3) (ds := W.whole.map .int) (d := .int ((W.b + 1 : Nat) : Int)) rfl (W5 x W v) T (by rfl) rfl (gv_W_beatS (W := W4 x W v) rfl rfl T) (by rw [List.length_map]; have := cW.wl; omega) T.n_Walk_whole (oy n3) (by simp [Mo.adr]) (by dsimp only [mWk, lWk, List.set]; rw [List.map_append, List.map_append]; rfl) ?_
    try dsimp only [List.set]
    refine q_set (gv_size T (t := x.t) (i := W.s.n) (r := W.s.c) ct (gv_W_talk (W := W5 x W v) rfl T) (gv_sd K (s := W.s) (j := 0) (gv_var rfl) gv_int rfl rfl) (gv_sd K (s := W.s) (j := 1) (gv_var rfl) gv_int rfl rfl) c2 c0 c1) ?_
    try dsimp only [List.set]
    have eD : W.begun.getLastD 0 = bq := by rw [be]; simp
    refine mw_fld (W := W5 x W v) rfl (W6 x W v) T (r_Speed (gv_var rfl) (Gv.eq (gv_i0 (gv_W_beatS (W := W5 x W v) rfl rfl T) (gv_ixL (ds := W.begun.map .int) (i := -1) (d := .int bq) (gv_W_begun (W := W5 x W v) rfl T) (gv_neg (i := 1) gv_int) (by rw [be, List.map_append]; exact atI_last _ _))) (by rw [← eD]; rfl))) T.n_Walk_speed_last (oy (.no (.no (.yes tD_fx .nil)))) tSpeed_fx rfl (List.mem_cons_self ..) ?_
    try dsimp only [List.set]
    intro σ H' hM hs
    obtain ⟨v', h1, h2⟩ := hs.at_ 0 _ rfl
    obtain rfl := h2.1
    refine k σ H' hM ?_
    have e : step x.t x.o W v = W6 x W v := by
      unfold step
      rw [if_pos hn, if_pos hn]
      rfl
    dsimp only
    rw [e]
    exact h2
  · have hn : ¬ W.s.n < (beat x.t x.o W.s v).n := fun z => of_decide_eq_false h (Int.ofNat_lt.mpr z)
    intro σ H' hM hs
    obtain ⟨v', h1, h2⟩ := hs.at_ 0 _ rfl
    obtain rfl := h2.1
    refine k σ H' hM ?_
    have e : step x.t x.o W v = W4 x W v := by
      unfold step
      rw [if_neg hn, if_neg hn]
      rfl
    dsimp only
    rw [e]
    exact h2
end
end RP
set_option maxHeartbeats 4000000
namespace RP
open PySem PySem.Spec PyProof.Rows L2
section
variable {P : Program} {w : World} {K : PySem.W.Frag} {mg : Str → Option Value} {base : Heap} {Γ : Ctx} {ta tb tc td te tf' tv : TE}
structure Wj where
  t : Tk
  o : Op
  c : Cz
def Wj.x (i : Wj) (a dx : Addr) (ls : List Addr) : Wx := ⟨i.t, i.o, i.c, a, dx, ls.getD 0 0, ls.getD 1 0, ls.getD 2 0, ls.getD 3 0, ls.getD 4 0, ls.getD 5 0⟩
abbrev wnTy (P : Program) (w : World) (K : PySem.W.Frag) (mg : Str → Option Value) (base : Heap) (i : Wj) : List Ty := [tTalk K i.t, tCz P w K mg base i.t.N i.c, tD K (.int i.o.beg), tD K (.int i.o.aga), tD K (.int i.o.mst), tD K (.int i.o.wai), tD K .none]
def spWalk (P : Program) (w : World) (K : PySem.W.Frag) (mg : Str → Option Value) (base : Heap) : Sp := spIM K (cWalk K) (fun i : Wj => TOk i.t ∧ OOk i.t i.o) 6 (fun i ls => mWk P w K mg base (i.x 0 0 ls) wk0) (wnTy P w K mg base)
theorem sc_Walk_init : FnScope ["self", "talk", "chooser", "begin", "again", "most", "wait", "opens"] ["self", "talk", "chooser", "begin", "again", "most", "wait", "opens"] (defScope s_Walk_init) := ⟨rfl, rfl, rfl, by decide +kernel, rfl, by decide +kernel, by decide +kernel⟩
theorem f_Walk_init (T : Txt K mg) : ∃ fd, FunD K d_Walk_init.name d_Walk_init.qual d_Walk_init.params d_Walk_init.body d_Walk_init.scope (d_Walk_init.dvs K) (d_Walk_init.kws K) (He.fAd K d_Walk_init.at_) fd ∧
    FnOk P w K mg base CX0 3 (He.fAd K d_Walk_init.at_) fd ["self", "talk", "chooser", "begin", "again", "most", "wait", "opens"] (spWalk P w K mg base) := by
  obtain ⟨fd, F⟩ := T.d_Walk_init
  refine ⟨fd, F, ?_⟩
  refine initM_ok F sc_Walk_init (fun _ => rfl) fun cdv A outer s H E i hr c => ⟨_, (pss_cons (ps_expr (pe_cal (c_look_room T) hr (by decide) rfl (pa_cons (pv 1) (pa_cons (pv 5) pa_nil)))) (pss_cons (ps_fld (pv 0) (pv 1) rfl) (pss_cons (ps_fld (pv 0) (pv 2) rfl) (pss_cons (ps_fld (pv 0) (pe_tup (pa_cons (pv 3) (pa_cons (pv 4) (pa_cons (pv 5) pa_nil)))) rfl) (pss_cons (ps_fld (pv 0) (pv 6) rfl) (pss_cons (ps_fld (pv 0) (pv 7) rfl) (pss_cons (ps_fld (pv 0) (pe_cal0 (c_first_stand T) hr (by decide) rfl) rfl) (pss_cons (ps_fld (pv 0) pe_int rfl) (pss_cons (ps_asg2 pe_non (pg_fld (pv 0)) (pg_fld (pv 0))) (pss_cons (ps_fld (pv 0) (pe_lst pa_nil) rfl) (pss_cons (ps_fld (pv 0) (pe_lst pa_nil) rfl) (pss_cons (ps_fld (pv 0) (pe_lst pa_nil) rfl) (pss_cons (ps_fld (pv 0) (pe_lst pa_nil) rfl) (pss_cons (ps_fld (pv 0) (pe_lst pa_nil) rfl) (pss_one (ps_fld (pv 0) (pe_lst pa_nil) rfl)))))))))))))))), fun a dx D k => ?_⟩
  try dsimp only [Cx.nox, cxOf, ent, List.map, List.length_cons, List.length_nil, List.replicate_succ, List.replicate_zero, List.cons_append, List.nil_append, List.set]
  have o : ∀ {R0 : Option Ty}, OFx 0 [R0, some (tTalk K i.t), some (tCz P w K mg base i.t.N i.c), some (tD K (.int i.o.beg)), some (tD K (.int i.o.aga)), some (tD K (.int i.o.mst)), some (tD K (.int i.o.wai)), some (tD K .none)] := .here (.yes tTalk_fx (.yes tCz_fx (.yes tD_fx (.yes tD_fx (.yes tD_fx (.yes tD_fx (.yes tD_fx .nil)))))))
  have hS : a ∈ [a] := List.mem_cons_self ..
  have hS2 : ∀ b ∈ [a], b = a := fun b hb => by simpa using hb
  refine q_drop (r_look_room (gv_var rfl) (gv_var rfl) (Nat.le_trans c.1.len6 (by decide)) c.2.m) ?_
  refine mq_fld rfl (gv_var rfl) T.c_Walk T.n_Walk_talk_walked o (FldFx.mem .nil) tTalk_fx [] rfl (by decide +kernel) hS ?_
  try dsimp only [List.set]
  refine mq_fld rfl (gv_var rfl) T.c_Walk T.n_Walk_chooser_asked o (FldFx.mem (.cons tTalk_fx .nil)) tCz_fx ["talk_walked"] rfl (by decide +kernel) hS ?_
  try dsimp only [List.set]
  refine mq_fld rfl (gv_tupd (gd_cons (gv_var rfl) (gd_cons (gv_var rfl) (gd_cons (gv_var rfl) gd_nil))) rfl) T.c_Walk T.n_Walk_limits o (FldFx.mem (.cons tTalk_fx (.cons tCz_fx .nil))) tD_fx ["talk_walked", "chooser_asked"] rfl (by decide +kernel) hS ?_
  try dsimp only [List.set]
  refine mq_fld rfl (gv_var rfl) T.c_Walk T.n_Walk_waiting o (FldFx.mem (.cons tTalk_fx (.cons tCz_fx (.cons tD_fx .nil)))) tD_fx ["talk_walked", "chooser_asked", "limits"] rfl (by decide +kernel) hS ?_
  try dsimp only [List.set]
  refine mq_fld rfl (gv_var rfl) T.c_Walk T.n_Walk_opening o (FldFx.mem (.cons tTalk_fx (.cons tCz_fx (.cons tD_fx (.cons tD_fx .nil))))) tD_fx ["talk_walked", "chooser_asked", "limits", "waiting"] rfl (by decide +kernel) hS ?_
  try dsimp only [List.set]
  refine mq_fld rfl r_first_stand T.c_Walk T.n_Walk_stand_here o (FldFx.mem (.cons tTalk_fx (.cons tCz_fx (.cons tD_fx (.cons tD_fx (.cons tD_fx .nil)))))) tD_fx ["talk_walked", "chooser_asked", "limits", "waiting", "opening"] rfl (by decide +kernel) hS ?_
  try dsimp only [List.set]
  refine mq_fld (P := tD K (.int ((0 : Nat) : Int))) rfl gv_int T.c_Walk T.n_Walk_beat_here o (FldFx.mem (.cons tTalk_fx (.cons tCz_fx (.cons tD_fx (.cons tD_fx (.cons tD_fx (.cons tD_fx .nil))))))) tD_fx ["talk_walked", "chooser_asked", "limits", "waiting", "opening", "stand_here"] rfl (by decide +kernel) hS ?_
  try dsimp only [List.set]
  refine mq_fld2 (P := tD K .none) rfl (fun σ H Q q => q) (fun H => .non) T.c_Walk T.n_Walk_rate_last T.n_Walk_speed_last o (FldFx.mem (.cons tTalk_fx (.cons tCz_fx (.cons tD_fx (.cons tD_fx (.cons tD_fx (.cons tD_fx (.cons tD_fx .nil)))))))) tD_fx ["talk_walked", "chooser_asked", "limits", "waiting", "opening", "stand_here", "beat_here"] rfl (by decide +kernel) rfl (by decide +kernel) hS ?_
  try dsimp only [List.set]
  refine mq_new rfl T.c_Walk T.n_Walk_rates o (FldFx.mem (.cons tTalk_fx (.cons tCz_fx (.cons tD_fx (.cons tD_fx (.cons tD_fx (.cons tD_fx (.cons tD_fx (.cons tD_fx (.cons tD_fx .nil)))))))))) ["talk_walked", "chooser_asked", "limits", "waiting", "opening", "stand_here", "beat_here", "rate_last", "speed_last"] rfl (by decide +kernel) hS hS2 fun l1 n1 => ?_
  try dsimp only [List.set]
  refine mq_new rfl T.c_Walk T.n_Walk_begun o (FldFx.mem (.cons tTalk_fx (.cons tCz_fx (.cons tD_fx (.cons tD_fx (.cons tD_fx (.cons tD_fx (.cons tD_fx (.cons tD_fx (.cons tD_fx (.cons tV_fx .nil))))))))))) ["talk_walked", "chooser_asked", "limits", "waiting", "opening", "stand_here", "beat_here", "rate_last", "speed_last", "rates"] rfl (by decide +kernel) hS hS2 fun l2 n2 => ?_
  try dsimp only [List.set]
  refine mq_new rfl T.c_Walk T.n_Walk_whole o (FldFx.mem (.cons tTalk_fx (.cons tCz_fx (.cons tD_fx (.cons tD_fx (.cons tD_fx (.cons tD_fx (.cons tD_fx (.cons tD_fx (.cons tD_fx (.cons tV_fx (.cons tV_fx .nil)))))))))))) ["talk_walked", "chooser_asked", "limits", "waiting", "opening", "stand_here", "beat_here", "rate_last", "speed_last", "rates", "begun"] rfl (by decide +kernel) hS hS2 fun l3 n3 => ?_
  try dsimp only [List.set]
  refine mq_new rfl T.c_Walk T.n_Walk_plays o (FldFx.mem (.cons tTalk_fx (.cons tCz_fx (.cons tD_fx (.cons tD_fx (.cons tD_fx (.cons tD_fx (.cons tD_fx (.cons tD_fx (.cons tD_fx (.cons tV_fx (.cons tV_fx (.cons tV_fx .nil))))))))))))) ["talk_walked", "chooser_asked", "limits", "waiting", "opening", "stand_here", "beat_here", "rate_last", "speed_last", "rates", "begun", "whole"] rfl (by decide +kernel) hS hS2 fun l4 n4 => ?_
  try dsimp only [List.set]
  refine mq_new rfl T.c_Walk T.n_Walk_stalls o (FldFx.mem (.cons tTalk_fx (.cons tCz_fx (.cons tD_fx (.cons tD_fx (.cons tD_fx (.cons tD_fx (.cons tD_fx (.cons tD_fx (.cons tD_fx (.cons tV_fx (.cons tV_fx (.cons tV_fx (.cons tV_fx .nil)))))))))))))) ["talk_walked", "chooser_asked", "limits", "waiting", "opening", "stand_here", "beat_here", "rate_last", "speed_last", "rates", "begun", "whole", "plays"] rfl (by decide +kernel) hS hS2 fun l5 n5 => ?_
  try dsimp only [List.set]
  refine m_new rfl T.c_Walk T.n_Walk_kept o (FldFx.mem (.cons tTalk_fx (.cons tCz_fx (.cons tD_fx (.cons tD_fx (.cons tD_fx (.cons tD_fx (.cons tD_fx (.cons tD_fx (.cons tD_fx (.cons tV_fx (.cons tV_fx (.cons tV_fx (.cons tV_fx (.cons tV_fx .nil))))))))))))))) ["talk_walked", "chooser_asked", "limits", "waiting", "opening", "stand_here", "beat_here", "rate_last", "speed_last", "rates", "begun", "whole", "plays", "stalls"] rfl (by decide +kernel) hS hS2 fun l6 n6 => ?_
  try dsimp only [List.set]
  intro σ H' hM hs
  obtain ⟨v', h1, h2⟩ := hs.at_ 0 _ rfl
  obtain rfl := h2.1
  refine k σ H' [l1, l2, l3, l4, l5, l6] rfl (fun l hl => ?_) hM h2
  simp only [List.mem_cons, List.not_mem_nil, or_false] at hl
  rcases hl with rfl | rfl | rfl | rfl | rfl | rfl <;> assumption
abbrev kwO5 : List Str := ["begin", "again", "most", "wait", "opens"]
theorem ck_Walk_init (T : Txt K mg) : CalCK P w K mg base "Walk" (cWalk K) 3 2 kwO5 gApp (spWalk P w K mg base) := by
  obtain ⟨fd, F, h⟩ := f_Walk_init (P := P) (w := w) (base := base) T
  obtain ⟨mv, B⟩ := F.kbinds0 (ps := ["self", "talk", "chooser", "begin", "again", "most", "wait", "opens"]) 3 kwO5 [] (fun us _ ws => us ++ ws) (fun h => nomatch h) (fun _ h => nomatch h) (fun r _ q => r.append q)
    (fun D doc pm an cdv ct us mv ws h1 h2 h3 => match us, ws, h1, h3 with | [_, _, _], [_, _, _, _, _], _, _ => rfl)
  exact ⟨_, fd, _, _, h, T.g_Walk, T.k_Walk, B⟩
abbrev gNon : List V → List V → List V := fun vs zs => vs ++ (zs ++ [.non])
theorem ck_Walk_init4 (T : Txt K mg) : CalCK P w K mg base "Walk" (cWalk K) 3 2 kwO gNon (spWalk P w K mg base) := by
  obtain ⟨fd, F, h⟩ := f_Walk_init (P := P) (w := w) (base := base) T
  obtain ⟨mv, B⟩ := F.kbinds0 (ps := ["self", "talk", "chooser", "begin", "again", "most", "wait", "opens"]) 3 kwO [("opens", .non)] (fun us mv ws => us ++ (ws ++ mv)) (fun h => nomatch h) (fun q h => by simp at h; subst h; exact .tail _ (.tail _ (.tail _ (.tail _ (.head _))))) (fun r m q => r.append (q.append m))
    (fun D doc pm an cdv ct us mv ws h1 h2 h3 => match us, mv, ws, h1, h2, h3 with | [_, _, _], [_], [_, _, _, _], _, _, _ => ⟨_, _, _, _, _, _, rfl, rfl, rfl⟩)
  exact ⟨_, fd, _, _, h, T.g_Walk, T.k_Walk, B⟩
end
end RP
set_option maxHeartbeats 4000000
namespace RP
open PySem PySem.Spec PyProof.Rows L2
section
variable {K : PySem.W.Frag} {Γ Γ1 Γ2 : Ctx} {M : Hm} {D : Ends} {u : TS} {te tv : TE} {t tk : TA} {Co a dx : Addr} {m : Mo} {f g mn : Str} {j : Nat} {H0 : Hp} {S : List Addr} {gs : TGs}
theorem gi_tupT {Ps : List Ty} {T : Nat → Ty} (he : Gv Γ te (tT K Ps)) (hT : ∀ i P, Ps[i]? = some P → T i = P) (fx : ∀ P ∈ Ps, P.Fx) : Gi Γ (iTup K te) Ps.length T := fun σ H R s q => he σ H _ s fun v H1 e1 hv => by
  obtain ⟨a, xs, e, h1, h2⟩ := hv
  have w : Walk (Itt K a) Ps.length (fun H => SqT K H a xs) (YAt xs) := h2.len ▸ walk_tup
  refine ⟨a, e, ⟨xs, h1⟩, q _ H1 _ e1 (fun H' i => im_t i h1) (walk_to w fun i H' x H'' hi y => ?_)⟩
  obtain ⟨e2, hx⟩ := y
  subst e2
  refine ⟨.refl _, fun _ im => ?_⟩
  have hP : Ps[i]? = some (Ps[i]'hi) := by simp [hi]
  obtain ⟨x', hx', hp⟩ := h2.get hP
  rw [hx] at hx'
  cases hx'
  rw [hT i _ hP]
  exact (fx _ (List.getElem_mem hi)) im hp
/-- the list a name means, an instance's -/
theorem gv_refL {i i' : Nat} {l : Addr} {ds : List PyData} (hi' : Γ[i']? = some (some (tV (.ref l)))) (hj : Γ[j]? = some (some (tM K Co a dx m))) (hi : m.ls[i]? = some (l, ds)) : Gv Γ (tVar i') (tL K ds) := fun σ H Q s q => by
  obtain ⟨v, h1, e, ⟨us, h2, h3⟩, h6, _⟩ := s.at_ j _ hj
  obtain ⟨w, h4, h5⟩ := s.at_ i' _ hi'
  obtain ⟨xs, hx, hd⟩ := h6.at_ hi
  obtain rfl : w = .ref l := h5
  exact ⟨_, h4, q _ H (.refl H) ⟨l, xs, rfl, SqL.of hx, hd⟩⟩
theorem gt_lst {ds : List PyData} {n : Nat} (h : Gts Γ gs (ds.map (tD K)) Γ1) (hn : ds.length = n) : Gt Γ (gLst K n gs) (tL K ds) Γ1 := fun v σ H Q s hv q => by
  obtain ⟨a, xs, e, h1, h2⟩ := hv
  exact ⟨a, xs, e, h1, h2.len.trans hn, h xs σ H Q s (pv_data h2) q⟩
theorem q_call {ι : Type} {Cd : ι → Prop} {ad : ι → Addr × Addr} {m1 m2 : ι → Mo} {Ps : ι → List Ty} {Qs : List Ty} (i : ι) (hj : Γ[j]? = some (some (tM K Co (ad i).1 (ad i).2 (m1 i)))) (hn : (m1 i).fs.lookup mn = none) (hs : Ga Γ t Qs) (e : Ps i = Qs) (c : Cd i) (o : OFx j Γ) (hS : ∀ b ∈ (m1 i).adr (ad i).1, b ∈ S)
    (im : ∀ H H', (tM K Co (ad i).1 (ad i).2 (m1 i)).p (.ref (ad i).1) H → (∀ b o, b ∉ (m1 i).adr (ad i).1 → H b = some o → H' b = some o) → Im H H')
    (k : Go (Hm.fr H0 S) (Γ.set j (some (tM K Co (ad i).1 (ad i).2 (m2 i)))) D u) : Go (Hm.fr H0 S) Γ D (tSeq (tDrop (tMeth Co mn (spM K Co Cd ad m1 m2 Ps) [] E0 (tVar j) t)) u) := gm_call (D := { D with nx := u D }) i hj hn hs e c o hS im k
end
section
variable {P : Program} {w : World} {K : PySem.W.Frag} {mg : Str → Option Value} {base : Heap} {Γ : Ctx} {ta tb tc td te tf' tv : TE} {D : Ends} {u : TS} {H0 : Hp} {S : List Addr} {x : Wx} {W : Wk} {j : Nat}
theorem im_W {H H' : Hp} (h : (tWk P w K mg base x W).p (.ref x.a) H) (kp : ∀ b o, b ∉ (mWk P w K mg base x W).adr x.a → H b = some o → H' b = some o) : Im H H' := mo_im (by show ¬ nsWk ∈ fixed; decide +kernel) h kp
theorem q_choose (hj : Γ[j]? = some (some (tWk P w K mg base x W))) (c : WiOk ⟨x, W⟩) (o : OFx j Γ) (hS : ∀ b ∈ aWk x, b ∈ S) (k : Go (Hm.fr H0 S) (Γ.set j (some (tWk P w K mg base x (choose x.t x.o x.ch W)))) D u) :
    Go (Hm.fr H0 S) Γ D (tSeq (tDrop (tMeth (cWalk K) "choose_here" (spChooseH P w K mg base) [] E0 (tVar j) tNil)) u) :=
  q_call (ι := Wi) (ad := adW) (m1 := fun i => mWk P w K mg base i.x i.W) (m2 := fun i => mWk P w K mg base i.x (choose i.x.t i.x.o i.x.ch i.W)) ⟨x, W⟩ hj (by rfl) ga_nil rfl c o hS (fun H H' h kp => im_W h kp) k
theorem m_choose (hj : Γ[j]? = some (some (tWk P w K mg base x W))) (c : WiOk ⟨x, W⟩) (o : OFx j Γ) (hS : ∀ b ∈ aWk x, b ∈ S) (k : Nx (Hm.fr H0 S) (Γ.set j (some (tWk P w K mg base x (choose x.t x.o x.ch W)))) D.nx) :
    Go (Hm.fr H0 S) Γ D (tDrop (tMeth (cWalk K) "choose_here" (spChooseH P w K mg base) [] E0 (tVar j) tNil)) :=
  gm_call (ι := Wi) (ad := adW) (m1 := fun i => mWk P w K mg base i.x i.W) (m2 := fun i => mWk P w K mg base i.x (choose i.x.t i.x.o i.x.ch i.W)) ⟨x, W⟩ hj (by rfl) ga_nil rfl c o hS (fun H H' h kp => im_W h kp) k
theorem m_step {v : Int} (hj : Γ[j]? = some (some (tWk P w K mg base x W))) (a : Gv Γ ta (tD K (.int v))) (c : WsOk ⟨x, W, v⟩) (o : OFx j Γ) (hS : ∀ b ∈ aWk x, b ∈ S) (k : Nx (Hm.fr H0 S) (Γ.set j (some (tWk P w K mg base x (step x.t x.o W v)))) D.nx) :
    Go (Hm.fr H0 S) Γ D (tDrop (tMeth (cWalk K) "step_on" (spStepOn P w K mg base) [] E0 (tVar j) (tCons ta tNil))) :=
  gm_call (ι := Ws) (ad := fun i => (i.x.a, i.x.dx)) (m1 := fun i => mWk P w K mg base i.x i.W) (m2 := fun i => mWk P w K mg base i.x (step i.x.t i.x.o i.W i.v)) ⟨x, W, v⟩ hj (by rfl) (ga_cons a ga_nil) rfl c o hS (fun H H' h kp => im_W h kp) k
theorem q_step {v : Int} (hj : Γ[j]? = some (some (tWk P w K mg base x W))) (a : Gv Γ ta (tD K (.int v))) (c : WsOk ⟨x, W, v⟩) (o : OFx j Γ) (hS : ∀ b ∈ aWk x, b ∈ S) (k : Go (Hm.fr H0 S) (Γ.set j (some (tWk P w K mg base x (step x.t x.o W v)))) D u) :
    Go (Hm.fr H0 S) Γ D (tSeq (tDrop (tMeth (cWalk K) "step_on" (spStepOn P w K mg base) [] E0 (tVar j) (tCons ta tNil))) u) := m_step (D := { D with nx := u D }) hj a c o hS k
def rrOf (W : Wk) : Rr := ⟨W.rates, W.begun, W.whole, W.plays, W.stalls, W.b, W.kept⟩
def chOf (t : Tk) (c : Cz) : Ch := fun n k r l => c.rt t ⟨n, k, r, l⟩
def spOf (ps : List (Int × Int)) : Nat → Int := fun i => rsp (lastV ps) ps (i : Int)
theorem sc_run_of : FnScope ["talk", "road", "chooser", "begin", "again", "most", "wait", "opens", "walk", "told", "some", "rates", "begun", "whole", "plays", "stalls"] ["talk", "road", "chooser", "begin", "again", "most", "wait", "opens"] (defScope s_run_of) := ⟨rfl, rfl, rfl, by decide +kernel, rfl, by decide +kernel, by decide +kernel⟩
structure Ro where
  t : Tk
  o : Op
  c : Cz
  ps : List (Int × Int)
structure RoOk (i : Ro) : Prop where
  t : TOk i.t
  o : OOk i.t i.o
  c : i.c.ok i.t.N
  v : Vch i.t (chOf i.t i.c)
  p : i.ps ≠ []
  l : i.ps.length ≤ 100
  r : ∃ B, Rd1 (spOf i.ps) B
abbrev Rne (i : Ro) (n : Nat) : Wk := Rn i.t i.o (chOf i.t i.c) (spOf i.ps) n
def spRunOf (P : Program) (w : World) (K : PySem.W.Frag) (mg : Str → Option Value) (base : Heap) : Sp := spP RoOk (fun i => [tTalk K i.t, tRoad K i.ps, tCz P w K mg base i.t.N i.c, tD K (.int i.o.beg), tD K (.int i.o.aga), tD K (.int i.o.mst), tD K (.int i.o.wai), tD K .none])
  (fun i => tE (fun n => Fin' i.t i.o (chOf i.t i.c) (spOf i.ps) n) (fun n => tRun K (rrOf (Rne i n))))
theorem f_run_of (T : Txt K mg) : ∃ fd, FunD K d_run_of.name d_run_of.qual d_run_of.params d_run_of.body d_run_of.scope (d_run_of.dvs K) (d_run_of.kws K) (He.fAd K d_run_of.at_) fd ∧
    FnOk P w K mg base CX0 6 (He.fAd K d_run_of.at_) fd ["talk", "road", "chooser", "begin", "again", "most", "wait", "opens"] (spRunOf P w K mg base) := by
  obtain ⟨fd, F⟩ := T.d_run_of
  refine ⟨fd, F, ?_⟩
  refine pure_ok F sc_run_of (fun _ => rfl) fun cdv A outer s H E i hr c => ⟨_, (pss_cons (ps_set (i := 8) sc_run_of.nd rfl (Or.inl rfl) (pe_calCK (ck_Walk_init T) hr (by decide) rfl (pa_cons (pv 0) (pa_cons (pv 2) pa_nil)) (pk_cons (pv 3) (pk_cons (pv 4) (pk_cons (pv 5) (pk_cons (pv 6) (pk_cons (pv 7) pk_nil))))))) (pss_cons (ps_while PassesOwn.never (pt_not (pt_val (pe_calM0 (c_Walk_is_at_end T) T.c_Walk hr (by decide) (pv 8)))) (pss_cons (ps_expr (pe_calM0 (c_Walk_choose_here T) T.c_Walk hr (by decide) (pv 8))) (pss_one (ps_expr (pe_calM (c_Walk_step_on T) T.c_Walk hr (by decide) (pv 8) (pa_cons (pe_calM (c_Road_speed_at T) T.c_Road hr (by decide) (pv 1) (pa_cons (pe_fld (pv 8) rfl) pa_nil)) pa_nil)))))) (pss_cons (ps_setLc (i := 9) (own := [("some", 10)]) (g := gName 10) (tt := tYes) (by rfl) sc_run_of.nd rfl rfl (sw_true rfl rfl rfl (by decide +kernel)) (pi_tup (pe_tup (pa_cons (pe_fld (pv 8) rfl) (pa_cons (pe_fld (pv 8) rfl) (pa_cons (pe_fld (pv 8) rfl) (pa_cons (pe_fld (pv 8) rfl) (pa_cons (pe_fld (pv 8) rfl) pa_nil))))))) (blkOk_by (own := [("some", 10)]) (N := ["talk", "road", "chooser", "begin", "again", "most", "wait", "opens", "walk", "told", "some", "rates", "begun", "whole", "plays", "stalls"]) (sc := defScope s_run_of) (by decide +kernel)) (fun _ _ _ _ _ => pg_name (i := 10) sc_run_of.nd rfl (Or.inl rfl)) (fun _ _ _ _ _ => pts_nil) (fun _ _ _ _ _ => (pe_callTy (T := "tuple") (r := rTupOf K) call_tuple_of (by rfl) T.f_tuple (by decide +kernel) (pa_cons (pv 10) pa_nil)))) (pss_cons (ps_asg (pv 9) (pg_lst rfl (pgs_cons (pg_name (i := 11) sc_run_of.nd rfl (Or.inl rfl)) (pgs_cons (pg_name (i := 12) sc_run_of.nd rfl (Or.inl rfl)) (pgs_cons (pg_name (i := 13) sc_run_of.nd rfl (Or.inl rfl)) (pgs_cons (pg_name (i := 14) sc_run_of.nd rfl (Or.inl rfl)) (pgs_cons (pg_name (i := 15) sc_run_of.nd rfl (Or.inl rfl)) pgs_nil))))))) (pss_one (ps_ret (pe_calC (c_Run_init T) hr (by decide) rfl (pa_cons (pv 11) (pa_cons (pv 12) (pa_cons (pv 13) (pa_cons (pv 14) (pa_cons (pv 15) (pa_cons (pe_fld (pv 8) rfl) (pa_cons (pe_callTy (T := "tuple") (r := rTupOf K) call_tuple_of (by rfl) T.f_tuple (by decide +kernel) (pa_cons (pe_fld (pv 8) rfl) pa_nil)) pa_nil)))))))))))))), fun M D r nn => ?_⟩
  try dsimp only [Cx.nox, cxOf, ent, List.map, List.length_cons, List.length_nil, List.replicate_succ, List.replicate_zero, List.cons_append, List.nil_append, List.set]
  obtain ⟨B, rd⟩ := c.r
  refine q_makeM (κ := Wj) (Cd := fun i : Wj => TOk i.t ∧ OOk i.t i.o) (Pk := wnTy P w K mg base) (nl := 6) (mo := fun i ls => mWk P w K mg base (i.x 0 0 ls) wk0) (⟨i.t, i.o, i.c⟩ : Wj) (ga_cons (gv_var rfl) (ga_cons (gv_var rfl) ga_nil)) (ga_cons (gv_var rfl) (ga_cons (gv_var rfl) (ga_cons (gv_var rfl) (ga_cons (gv_var rfl) (ga_cons (gv_var rfl) ga_nil))))) rfl rfl (fun x vs zs => ⟨vs ++ zs, rfl, fun H h1 h2 => h1.app h2⟩) ⟨c.t, c.o⟩ fun H0 a dx ls hl hM hn => ?_
  try dsimp only [List.set]
  have r' := r.fr hM hn
  match ls, hl, hn, r' with
  | [l1, l2, l3, l4, l5, l6], _, hn, r' =>
  have hS : ∀ b ∈ aWk ⟨i.t, i.o, i.c, a, dx, l1, l2, l3, l4, l5, l6⟩, b ∈ [a, l1, l2, l3, l4, l5, l6] := fun b hb => hb
  have ox : ∀ {R : Option Ty}, OFx 8 [some (tTalk K i.t), some (tRoad K i.ps), some (tCz P w K mg base i.t.N i.c), some (tD K (.int i.o.beg)), some (tD K (.int i.o.aga)), some (tD K (.int i.o.mst)), some (tD K (.int i.o.wai)), some (tD K .none), R, none, none, none, none, none, none, none] := .yes tTalk_fx (.yes tRoad_fx (.yes tCz_fx (.yes tD_fx (.yes tD_fx (.yes tD_fx (.yes tD_fx (.yes tD_fx (.here (.no (.no (.no (.no (.no (.no (.no .nil)))))))))))))))
  refine q_while (fun n => [some (tTalk K i.t), some (tRoad K i.ps), some (tCz P w K mg base i.t.N i.c), some (tD K (.int i.o.beg)), some (tD K (.int i.o.aga)), some (tD K (.int i.o.mst)), some (tD K (.int i.o.wai)), some (tD K .none), some (tWk P w K mg base ⟨i.t, i.o, i.c, a, dx, l1, l2, l3, l4, l5, l6⟩ (Rne i n)), none, none, none, none, none, none, none])
    (fun n => ∀ j, j < n → ¬ over i.t (Rne i j).s) (fun n => mu i.t i.o B (Rne i n)) (fun n => !decide (over i.t (Rne i n).s)) 0 (fun j hj => absurd hj (Nat.not_lt_zero j)) rfl (fun n cn => gb_not (gb_val (r_at_end (x := ⟨i.t, i.o, i.c, a, dx, l1, l2, l3, l4, l5, l6⟩) (W := Rne i n) rfl c.t))) (fun n cn hb nx hn' => ?_) (fun n cn hb => ?_)
  · have hno : ¬ over i.t (Rne i n).s := by simpa using hb
    have cn' : ∀ j, j ≤ n → ¬ over i.t (Rne i j).s := fun j hj => by
      rcases Nat.lt_or_eq_of_le hj with h | h
      · exact cn j h
      · rw [h]; exact hno
    have ok := Rn_ok c.t c.o c.v rd n cn
    have le := Rn_le c.t c.o c.v rd n cn
    have eb : (Rne i n).b = n := Rn_b n
    have eb2 : (choose i.t i.o (chOf i.t i.c) (Rne i n)).b = n := by rw [choose_b]; exact eb
    refine q_choose (x := ⟨i.t, i.o, i.c, a, dx, l1, l2, l3, l4, l5, l6⟩) (W := Rne i n) rfl ⟨c.t, c.o, c.c, ok, by show (Rne i n).b ≤ 900; rw [eb]; omega⟩ ox hS ?_
    try dsimp only [List.set]
    have hv : 0 ≤ spOf i.ps n := rd.pos n
    refine m_step (x := ⟨i.t, i.o, i.c, a, dx, l1, l2, l3, l4, l5, l6⟩) (W := choose i.t i.o (chOf i.t i.c) (Rne i n)) (v := spOf i.ps n) rfl (Gv.eq (r_speed_at (ps := i.ps) (b := (n : Int)) (gv_var rfl) (gv_W_beatS (x := ⟨i.t, i.o, i.c, a, dx, l1, l2, l3, l4, l5, l6⟩) (W := choose i.t i.o (chOf i.t i.c) (Rne i n)) rfl eb2 T) c.p c.l) rfl) ⟨⟨c.t, c.o, c.c, choose_ok c.t c.o c.v ok, by show (choose i.t i.o (chOf i.t i.c) (Rne i n)).b ≤ 900; rw [eb2]; omega⟩, ?_, hv⟩ ox hS ?_
    · show ¬ over i.t (choose i.t i.o (chOf i.t i.c) (Rne i n)).s
      unfold over
      rw [choose_p]
      exact hno
    · exact hn' (n + 1) (fun j hj => cn' j (Nat.le_of_lt_succ hj)) (Rn_mu c.t c.o c.v rd cn')
  · have hov : over i.t (Rne i n).s := by simpa using hb
    have fin : Fin' i.t i.o (chOf i.t i.c) (spOf i.ps) n := ⟨hov, cn⟩
    have ok := Rn_ok c.t c.o c.v rd n cn
    refine q_set (gv_lc (K := K) (n := 5) (T := fun k => tV (.ref ([l1, l2, l3, l4, l5].getD k 0))) (ds := [dI (Rne i n).rates, dI (Rne i n).begun, dI (Rne i n).whole, dI (Rne i n).plays, dPs (Rne i n).stalls])
      (gi_tupT (Ps := [tV (.ref l1), tV (.ref l2), tV (.ref l3), tV (.ref l4), tV (.ref l5)]) (gv_tupT (ga_cons (gv_fldM rfl T.c_Walk T.n_Walk_rates (by rfl)) (ga_cons (gv_fldM rfl T.c_Walk T.n_Walk_begun (by rfl)) (ga_cons (gv_fldM rfl T.c_Walk T.n_Walk_whole (by rfl)) (ga_cons (gv_fldM rfl T.c_Walk T.n_Walk_plays (by rfl)) (ga_cons (gv_fldM rfl T.c_Walk T.n_Walk_stalls (by rfl)) ga_nil))))) rfl)
        (fun k R hk => match k, hk with | 0, hk => Option.some.inj hk | 1, hk => Option.some.inj hk | 2, hk => Option.some.inj hk | 3, hk => Option.some.inj hk | 4, hk => Option.some.inj hk | k + 5, hk => nomatch hk) (AllFx.mem (.cons tV_fx (.cons tV_fx (.cons tV_fx (.cons tV_fx (.cons tV_fx .nil)))))))
      rfl (by decide) (fun k d hk => ?_)) ?_
    · match k, hk with
      | 0, hk => cases Option.some.inj hk; exact gv_cb1 (gv_refL (i := 0) (j := 8) (l := l1) rfl rfl rfl) gc_tupL
      | 1, hk => cases Option.some.inj hk; exact gv_cb1 (gv_refL (i := 1) (j := 8) (l := l2) rfl rfl rfl) gc_tupL
      | 2, hk => cases Option.some.inj hk; exact gv_cb1 (gv_refL (i := 2) (j := 8) (l := l3) rfl rfl rfl) gc_tupL
      | 3, hk => cases Option.some.inj hk; exact gv_cb1 (gv_refL (i := 3) (j := 8) (l := l4) rfl rfl rfl) gc_tupL
      | 4, hk => cases Option.some.inj hk; exact gv_cb1 (gv_refL (i := 4) (j := 8) (l := l5) rfl rfl rfl) gc_tupL
      | k + 5, hk => nomatch hk
    try dsimp only [List.set]
    refine q_asg (gv_var rfl) (gt_lst (ds := [dI (Rne i n).rates, dI (Rne i n).begun, dI (Rne i n).whole, dI (Rne i n).plays, dPs (Rne i n).stalls]) (gts_cons gt_name (gts_cons gt_name (gts_cons gt_name (gts_cons gt_name (gts_cons gt_name gts_nil))))) rfl) ?_
    try dsimp only [List.set]
    refine go_ret (P := tRun K (rrOf (Rne i n))) ?_ r' fun v H h => ⟨n, fin, h⟩
    exact gv_make (rrOf (Rne i n)) (ga_cons (gv_var rfl) (ga_cons (gv_var rfl) (ga_cons (gv_var rfl) (ga_cons (gv_var rfl) (ga_cons (gv_var rfl) (ga_cons (gv_W_beat (x := ⟨i.t, i.o, i.c, a, dx, l1, l2, l3, l4, l5, l6⟩) (W := Rne i n) rfl T) (ga_cons (gv_cb1 (gv_W_kept (x := ⟨i.t, i.o, i.c, a, dx, l1, l2, l3, l4, l5, l6⟩) (W := Rne i n) rfl T) gc_tupL) ga_nil))))))) rfl trivial
end
end RP
set_option maxHeartbeats 4000000
namespace RP
open PySem PySem.Spec PyProof.Rows L2
section
variable {P : Program} {w : World} {K : PySem.W.Frag} {mg : Str → Option Value} {base : Heap} {Γ : Ctx} {ta tb tc td te tf' tg th : TE}
theorem ck_run_of (T : Txt K mg) : CalK P w K mg base "run_of" 6 3 kwO gNon (spRunOf P w K mg base) := by
  obtain ⟨fd, F, h⟩ := f_run_of (P := P) (w := w) (base := base) T
  obtain ⟨mv, B⟩ := F.kbinds0 (ps := ["talk", "road", "chooser", "begin", "again", "most", "wait", "opens"]) 3 kwO [("opens", .non)] (fun us mv ws => us ++ (ws ++ mv)) (fun h => nomatch h) (fun q h => by simp at h; subst h; exact .tail _ (.tail _ (.tail _ (.tail _ (.head _))))) (fun r m q => r.append (q.append m))
    (fun D doc pm an cdv ct us mv ws h1 h2 h3 => match us, mv, ws, h1, h2, h3 with | [_, _, _], [_], [_, _, _, _], _, _, _ => ⟨_, _, _, _, _, _, rfl, rfl, rfl⟩)
  exact ⟨_, fd, _, _, h, T.g_run_of, F.kp, B⟩
abbrev tRuns (K : PySem.W.Frag) (i : Ro) : Ty := tE (fun n => Fin' i.t i.o (chOf i.t i.c) (spOf i.ps) n) (fun n => tRun K (rrOf (Rne i n)))
theorem r_run_of {i : Ro} (a1 : Gv Γ ta (tTalk K i.t)) (a2 : Gv Γ tb (tRoad K i.ps)) (a3 : Gv Γ tc (tCz P w K mg base i.t.N i.c)) (a4 : Gv Γ td (tD K (.int i.o.beg))) (a5 : Gv Γ te (tD K (.int i.o.aga))) (a6 : Gv Γ tf' (tD K (.int i.o.mst))) (a7 : Gv Γ tg (tD K (.int i.o.wai))) (c : RoOk i) :
    Gv Γ (tCallN 3 4 (spRunOf P w K mg base) gNon E0 (tCons ta (tCons tb (tCons tc tNil))) (tCons td (tCons te (tCons tf' (tCons tg tNil))))) (tRuns K i) :=
  gv_callN i (ga_cons a1 (ga_cons a2 (ga_cons a3 ga_nil))) (ga_cons a4 (ga_cons a5 (ga_cons a6 (ga_cons a7 ga_nil)))) rfl rfl (fun H vs zs h1 h2 => h1.app (h2.app (.cons (P := tD K .none) .non .nil))) c
abbrev dOp (o : Op) : PyData := .tuple [.int o.beg, .int o.aga, .int o.mst, .int o.wai]
theorem sc_law_run : FnScope ["_law_talk_here", "_law_road", "_law_chooser", "_law_options_here", "_law_first", "_law_later", "_law_high", "_law_waits"] ["_law_talk_here", "_law_road", "_law_chooser", "_law_options_here"] (defScope s_law_run) := ⟨rfl, rfl, rfl, by decide +kernel, rfl, by decide +kernel, by decide +kernel⟩
def spLawRun (P : Program) (w : World) (K : PySem.W.Frag) (mg : Str → Option Value) (base : Heap) : Sp := spP RoOk (fun i => [tTalk K i.t, tRoad K i.ps, tCz P w K mg base i.t.N i.c, tD K (dOp i.o)]) (tRuns K)
theorem c_law_run (T : Txt K mg) : Cal P w K mg base "_law_run" 7 [] (spLawRun P w K mg base) := by
  obtain ⟨fd, F⟩ := T.d_law_run
  refine ⟨_, fd, ["_law_talk_here", "_law_road", "_law_chooser", "_law_options_here"], [], ?_, T.g_law_run, F.kp, F.bindsN (fun _ _ _ _ _ _ us hl => match us, hl with | [_, _, _, _], _ => rfl), .nil⟩
  refine pure_ok F sc_law_run (fun _ => rfl) fun cdv A outer s H E i hr c => ⟨_, (pss_cons (ps_asg (pv 3) (pg_tup rfl (pgs_cons (pg_name (i := 4) sc_law_run.nd rfl (Or.inl rfl)) (pgs_cons (pg_name (i := 5) sc_law_run.nd rfl (Or.inl rfl)) (pgs_cons (pg_name (i := 6) sc_law_run.nd rfl (Or.inl rfl)) (pgs_cons (pg_name (i := 7) sc_law_run.nd rfl (Or.inl rfl)) pgs_nil)))))) (pss_one (ps_ret (pe_calK (ck_run_of T) hr (by decide) rfl (pa_cons (pv 0) (pa_cons (pv 1) (pa_cons (pv 2) pa_nil))) (pk_cons (pv 4) (pk_cons (pv 5) (pk_cons (pv 6) (pk_cons (pv 7) pk_nil)))))))), fun M D r nn => ?_⟩
  try dsimp only [Cx.nox, cxOf, ent, List.map, List.length_cons, List.length_nil, List.replicate_succ, List.replicate_zero, List.cons_append, List.nil_append, List.set]
  refine q_asg (gv_var rfl) (gt_tup (ds := [.int i.o.beg, .int i.o.aga, .int i.o.mst, .int i.o.wai]) (gts_cons gt_name (gts_cons gt_name (gts_cons gt_name (gts_cons gt_name gts_nil)))) rfl) ?_
  try dsimp only [List.set]
  exact go_ret (r_run_of (i := i) (gv_var rfl) (gv_var rfl) (gv_var rfl) (gv_var rfl) (gv_var rfl) (gv_var rfl) (gv_var rfl) c) r fun _ _ h => h
theorem r_law_run {i : Ro} (a1 : Gv Γ ta (tTalk K i.t)) (a2 : Gv Γ tb (tRoad K i.ps)) (a3 : Gv Γ tc (tCz P w K mg base i.t.N i.c)) (a4 : Gv Γ td (tD K (dOp i.o))) (c : RoOk i) :
    Gv Γ (tCall (spLawRun P w K mg base) [] E0 (tCons ta (tCons tb (tCons tc (tCons td tNil))))) (tRuns K i) := gv_call0 i (ga_cons a1 (ga_cons a2 (ga_cons a3 (ga_cons a4 ga_nil)))) rfl c
theorem sc_is_count : FnScope ["thing"] ["thing"] (defScope s_is_count) := ⟨rfl, rfl, rfl, by decide +kernel, rfl, by decide +kernel, by decide +kernel⟩
def spCount (K : PySem.W.Frag) : Sp := spP (fun _ : Int => True) (fun i => [tD K (.int i)]) (fun i => tD K (.bool (decide (0 ≤ i))))
theorem c_is_count (T : Txt K mg) : Cal P w K mg base "is_count" 1 [] (spCount K) := by
  obtain ⟨fd, F⟩ := T.d_is_count
  refine ⟨_, fd, ["thing"], [], ?_, T.g_is_count, F.kp, F.bindsN (fun _ _ _ _ _ _ us hl => match us, hl with | [_], _ => rfl), .nil⟩
  refine pure_ok F sc_is_count (fun _ => rfl) fun cdv A outer s H E i hr c => ⟨_, (pss_one (ps_ret (pe_and (pe_callB (id := "isinstance") (r := rIsi K) call_isi (by rfl) T.f_isinstance (by decide +kernel) (pa_cons (pv 0) (pa_cons (pe_bltn (v := .ty "int") rfl T.f_int (by decide +kernel) rfl) pa_nil))) (pe_and (pe_not (pe_callB (id := "isinstance") (r := rIsi K) call_isi (by rfl) T.f_isinstance (by decide +kernel) (pa_cons (pv 0) (pa_cons (pe_bltn (v := .ty "bool") rfl T.f_bool (by decide +kernel) rfl) pa_nil)))) (pe_one (pe_cmpR op_ge (pv 0) pe_int (nomark _))))))), fun M D r nn => ?_⟩
  try dsimp only [Cx.nox, cxOf, ent, List.map, List.length_cons, List.length_nil, List.replicate_succ, List.replicate_zero, List.cons_append, List.nil_append, List.set]
  exact go_retD r (gv_and (gv_isi (d := .int i) (gv_var rfl) kb_ii) fun _ => gv_and (gv_not (gv_isi (d := .int i) (gv_var rfl) kb_ib)) fun _ => gv_b0 (gv_var rfl) gv_int) rfl
theorem r_is_count {i : Int} (a : Gv Γ ta (tD K (.int i))) : Gv Γ (tCall (spCount K) [] E0 (tCons ta tNil)) (tD K (.bool (decide (0 ≤ i)))) := gv_call0 i (ga_cons a ga_nil) rfl trivial
end
end RP
set_option maxHeartbeats 4000000
namespace RP
open PySem PySem.Spec PyProof.Rows L2
section
variable {K : PySem.W.Frag} {Γ : Ctx} {ta tb te : TE} {ts : TA} {A B P P' : Ty} {Ps : List Ty} {a l : Addr} {n m : Nat}
theorem gx_tupT (h : Gxa a l n Γ ts Ps) (hl : Nat.ble Ps.length 16777216 = true) : Gx a l n Γ (tTup ts) (tT K Ps) := fun σ H Q c s d b q =>
  h σ H _ c s d b fun vs H1 e1 d1 h1 => ⟨by rw [h1.len, sizeLine_eq]; exact Nat.le_of_ble_eq_true hl, fun p hp => q _ _ (e1.trans (.of (same_new hp))) (d1.up (same_new hp)) ⟨p, vs, rfl, SqT.of upd_same, h1.up (same_new hp)⟩⟩
end
/-- the deck as it stands -/
def tDe (a l : Addr) (cs : List Int) (sd ct : Int) : Ty := ⟨fun v H => v = .ref a ∧ H a = some (.lst [.ref l, .int sd, .int ct]) ∧ H l = some (.lst (cs.map V.int)), fun e h => ⟨h.1, e _ _ h.2.1, e _ _ h.2.2⟩⟩
section
variable {K : PySem.W.Frag} {Γ : Ctx} {ta tb te : TE} {a l : Addr} {cs : List Int} {sd ct z : Int} {H0 : Hp} {D : Ends} {u t : TS} {c j : Nat}
theorem De.ne {H : Hp} (h1 : H a = some (.lst [.ref l, .int sd, .int ct])) (h2 : H l = some (.lst (cs.map V.int))) : a ≠ l := fun e => by
  rw [e, h2] at h1
  have z : cs.map V.int = [.ref l, .int sd, .int ct] := by simpa using h1
  cases cs with
  | nil => cases z
  | cons x xs =>
    have : V.int x = V.ref l := (List.cons.inj z).1
    cases this
theorem gv_dk1 (h : Γ[0]? = some (some (tDe a l cs sd ct))) : Gv Γ (tOp (rIxL K) (tVar 0) (tC (.int 1))) (tD K (.int sd)) := fun σ H Q s q => by
  obtain ⟨v, h1, h2, h3, h4⟩ := s.at_ 0 _ h
  exact ⟨v, h1, a, _, 1, .int sd, h2, rfl, SqL.of h3, rfl, q _ H (.refl H) (.int _)⟩
theorem gv_dk2 (h : Γ[0]? = some (some (tDe a l cs sd ct))) : Gv Γ (tOp (rIxL K) (tVar 0) (tC (.int 2))) (tD K (.int ct)) := fun σ H Q s q => by
  obtain ⟨v, h1, h2, h3, h4⟩ := s.at_ 0 _ h
  exact ⟨v, h1, a, _, 2, .int ct, h2, rfl, SqL.of h3, rfl, q _ H (.refl H) (.int _)⟩
theorem gv_dk0 (h : Γ[0]? = some (some (tDe a l cs sd ct))) : Gv Γ (tOp (rIxL K) (tVar 0) (tC (.int 0))) (tL K (cs.map .int)) := fun σ H Q s q => by
  obtain ⟨v, h1, h2, h3, h4⟩ := s.at_ 0 _ h
  exact ⟨v, h1, a, _, 0, .ref l, h2, rfl, SqL.of h3, rfl, q _ H (.refl H) ⟨l, _, rfl, SqL.of h4, Dus.of_ints cs⟩⟩
theorem gv_neLL {ds es : List PyData} (ha : Gv Γ ta (tL K ds)) (hb : Gv Γ tb (tL K es)) (s1 : SeqAt.shaped (.list ds) = true) (s2 : SeqAt.shaped (.list es) = true) : Gv Γ (tOp (rNeD K) ta tb) (tD K (.bool (!PyData.eqv (.list ds) (.list es)))) := gv_op ha hb fun x y H Q hx hy q => by
  obtain ⟨p, xs, e1, h1, h2⟩ := hx
  obtain ⟨r, ys, e2, h3, h4⟩ := hy
  subst e1 e2
  exact ⟨_, _, .lst h1 h2.dp, .lst h3 h4.dp, s1, s2, q _ H (.refl H) (.bl _)⟩
theorem qk_set (h : Γ[0]? = some (some (tDe a l cs sd ct))) (o : OFx 0 Γ) (he : Gv Γ te (tD K (.int z))) (k : Go (Hm.fr H0 [a, l]) (Γ.set 0 (some (tDe a l cs sd z))) D u) : Go (Hm.fr H0 [a, l]) Γ D (tSeq (tAsg te (gSub (tVar 0) (tC (.int 2)) rSetL)) u) := fun σ H m s =>
  he σ H _ s fun v H1 e1 hv => by
    obtain ⟨w, h1, h2, h3, h4⟩ := (s.up e1).at_ 0 _ h
    obtain rfl := Du.int_inv hv
    have im : Im H1 (upd H1 a (.lst [.ref l, .int sd, .int z])) := .put h3 (fun z => z)
    refine ⟨w, h1, a, _, 2, 2, h2, rfl, h3, rfl, k σ _ (fr_put ((Hm.fr H0 [a, l]).up e1 m) (List.mem_cons_self ..)) ((s.up e1).moved im o h h1 ⟨h2, upd_same, by rw [upd_ne (De.ne h3 h4).symm]; exact h4⟩)⟩
theorem qk_pop (h : Γ[0]? = some (some (tDe a l (cs ++ [z]) sd ct))) (o : OFx 0 Γ) (k : Go (Hm.fr H0 [a, l]) ((Γ.set 0 (some (tDe a l cs sd ct))).set j (some (tD K (.int z)))) D u) : Go (Hm.fr H0 [a, l]) Γ D (tSeq (tAsg (tBM0 K "list" rPop (tOp (rIxL K) (tVar 0) (tC (.int 0)))) (gName j)) u) := fun σ H m s => by
  obtain ⟨w, h1, h2, h3, h4⟩ := s.at_ 0 _ h
  have im : Im H (upd H l (.lst (cs.map V.int))) := .put h4 (fun z => z)
  have e : ((cs ++ [z]).map V.int).dropLast = cs.map V.int := by simp
  refine ⟨w, h1, a, _, 0, .ref l, h2, rfl, SqL.of h3, rfl, .inl ⟨rfl, _, SqL.of h4⟩, l, _, .int z, rfl, rfl, h4, by simp, ?_⟩
  rw [e]
  have s2 := s.moved (P' := tDe a l cs sd ct) im o h h1 ⟨h2, by rw [upd_ne (De.ne h3 h4)]; exact h3, upd_same⟩
  exact k _ _ (fr_put m (.tail _ (.head _))) (s2.set (P := tD K (.int z)) j (.int z))
theorem qk_app (h : Γ[0]? = some (some (tDe a l cs sd ct))) (o : OFx 0 Γ) (hz : cs.length ≤ 1000) (he : Gv Γ te (tD K (.int z))) (k : Go (Hm.fr H0 [a, l]) (Γ.set 0 (some (tDe a l (cs ++ [z]) sd ct))) D u) : Go (Hm.fr H0 [a, l]) Γ D (tSeq (tDrop (tBM K "list" rAppend (tOp (rIxL K) (tVar 0) (tC (.int 0))) (tCons te tNil))) u) := fun σ H m s => by
  obtain ⟨w, h1, h2, h3, h4⟩ := s.at_ 0 _ h
  refine ⟨w, h1, a, _, 0, .ref l, h2, rfl, SqL.of h3, rfl, .inl ⟨rfl, _, SqL.of h4⟩, he σ H _ s fun v H1 e1 hv => ?_⟩
  obtain rfl := Du.int_inv hv
  have h4' := e1 _ _ h4
  have im : Im H1 (upd H1 l (.lst (cs.map V.int ++ [.int z]))) := .put h4' (fun z => z)
  refine ⟨l, _, .int z, rfl, rfl, h4', small1000 (by rw [List.length_map]; exact hz), k σ _ (fr_put ((Hm.fr H0 [a, l]).up e1 m) (.tail _ (.head _))) ((s.up e1).moved im o h h1 ⟨h2, by rw [upd_ne (De.ne h3 h4)]; exact e1 _ _ h3, by rw [upd_same, List.map_append]; rfl⟩)⟩
theorem go_deck (h : Γ[0]? = some (some (tV (.ref a)))) (k : ∀ (cs : List Int) (sd ct : Int), 0 ≤ ct → ct ≤ c → cs.length ≤ 1000 → Go (Hm.fr H0 [a, l]) (Γ.set 0 (some (tDe a l cs sd ct))) D t) : Go (Hm.dk H0 a l c) Γ D t := fun σ H m s => by
  obtain ⟨w, h1, h2⟩ := s.at_ 0 _ h
  obtain ⟨m1, cs, sd, ct, h3, h4, h5, h6, h7⟩ := m
  obtain rfl : w = .ref a := h2
  have s2 := s.set (P := tDe a l cs sd ct) 0 (v := .ref a) ⟨rfl, h3, h4⟩
  have e : σ.set 0 (some (.ref a)) = σ := by
    apply List.ext_getElem?
    intro i
    rw [List.getElem?_set]
    by_cases q : 0 = i
    · subst q
      rw [if_pos rfl, h1]
      by_cases ll : 0 < σ.length
      · rw [if_pos ll]
      · rw [List.getElem?_eq_none (by omega)] at h1
        cases h1
    · rw [if_neg q]
  rw [e] at s2
  exact k cs sd ct h5 h6 h7 σ H (fun b o n q => m1 b o (fun z => n (by rw [z]; exact .head _)) (fun z => n (by rw [z]; exact .tail _ (.head _))) q) s2
theorem gk_ret {P R : Ty} {n : Nat} (h : Γ[0]? = some (some (tDe a l cs sd ct))) (h0 : 0 ≤ ct) (h1 : ct ≤ n) (hz : cs.length ≤ 1000) (he : Gv Γ te P) (k : ∀ v H, P.p v H → R.p v H) (r : ∀ v H', SameD a l H0 H' → Deck a l n H' → R.p v H' → D.rt v H') : Go (Hm.fr H0 [a, l]) Γ D (tRet te) := fun σ H m s =>
  he σ H _ s fun v H1 e1 hv => by
    obtain ⟨w, _, _, h3, h4⟩ := (s.up e1).at_ 0 _ h
    refine r v H1 (fun b o n1 n2 q => (Hm.fr H0 [a, l]).up e1 m b o (fun z => ?_) q) ⟨cs, sd, ct, h3, h4, h0, h1, hz⟩ (k v H1 hv)
    rcases List.mem_cons.mp z with z | z
    · exact n1 z
    · exact n2 (by simpa using z)
end
section
variable {P : Program} {w : World} {K : PySem.W.Frag} {mg : Str → Option Value} {base : Heap} {Γ : Ctx} {ta tb tc td te : TE}
theorem sc_law_draw : FnScope ["_law_deck_here", "_law_top", "_law_cell", "_law_number"] ["_law_deck_here", "_law_top"] (defScope s_law_draw) := ⟨rfl, rfl, rfl, by decide +kernel, rfl, by decide +kernel, by decide +kernel⟩
abbrev inT (top : Int) : Int → Prop := fun v => 0 ≤ v ∧ v < top
def spDraw (K : PySem.W.Frag) : Sp := spX (fun top : Int => 1 ≤ top ∧ top < 1000000) 1 (fun top => [tD K (.int top)]) (fun top => tI K (inT top))
theorem c_law_draw (T : Txt K mg) : Cal P w K mg base "_law_draw" 1 [] (spDraw K) := by
  obtain ⟨fd, F⟩ := T.d_law_draw
  refine ⟨_, fd, ["_law_deck_here", "_law_top"], [], ?_, T.g_law_draw, F.kp, F.bindsN (fun _ _ _ _ _ _ us hl => match us, hl with | [_, _], _ => rfl), .nil⟩
  refine draw_ok F sc_law_draw (fun _ => rfl) fun cdv A outer s H E top hr ct => ⟨_, (pss_cons (ps_asg (pe_op op_add (pe_ix (r := rIxL K) ix_list (pv 0) pe_int (fun _ _ => rfl)) pe_int) (pg_sub (pv 0) pe_int set_list)) (pss_cons (ps_set (i := 2) sc_law_draw.nd rfl (Or.inl rfl) (pe_ix (r := rIxL K) ix_list (pv 0) pe_int (fun _ _ => rfl))) (pss_cons (ps_if (pt_cmpR (r := rNeD K) (op_neD hr.units) (pe_ix (r := rIxL K) ix_list (pv 0) pe_int (fun _ _ => rfl)) (pe_lst pa_nil) (nomark _)) (pss_cons (ps_set (i := 2) sc_law_draw.nd rfl (Or.inl rfl) (pe_bm0 PySem.F.plainAttrs_list PySem.F.slot_list_pop PySem.F.type_list_pop mt_pop (pe_ix (r := rIxL K) ix_list (pv 0) pe_int (fun _ _ => rfl)))) (pss_one (ps_if (pt_cmpR op_ge (pv 2) (pe_op op_pow pe_int pe_int) (nomark _)) (pss_cons (ps_expr (pe_bm PySem.F.plainAttrs_list PySem.F.slot_list_append PySem.F.type_list_append mt_append (pe_ix (r := rIxL K) ix_list (pv 0) pe_int (fun _ _ => rfl)) (pa_cons (pe_op op_fdivN (pv 2) (pv 1)) pa_nil))) (pss_one (ps_ret (pe_op op_modN (pv 2) (pv 1))))) pss_nil))) pss_nil) (pss_cons (ps_set (i := 3) sc_law_draw.nd rfl (Or.inl rfl) (pe_op op_add (pe_op op_add (pe_op op_modN (pv 2) pe_int) (pe_op op_mul (pe_op op_mul pe_int (pe_ix (r := rIxL K) ix_list (pv 0) pe_int (fun _ _ => rfl))) (pe_ix (r := rIxL K) ix_list (pv 0) pe_int (fun _ _ => rfl)))) pe_int)) (pss_cons (ps_set (i := 3) sc_law_draw.nd rfl (Or.inl rfl) (pe_op op_modN (pe_op op_mul (pv 3) pe_int) pe_int)) (pss_cons (ps_set (i := 3) sc_law_draw.nd rfl (Or.inl rfl) (pe_op op_modN (pe_op op_add (pe_op op_add (pe_op op_mul (pv 3) (pv 3)) (pe_op op_mul pe_int (pv 3))) (pe_ix (r := rIxL K) ix_list (pv 0) pe_int (fun _ _ => rfl))) pe_int)) (pss_one (ps_ret (pe_op op_modN (pe_op op_fdivN (pv 3) pe_int) (pv 1)))))))))), fun a l c D cb r => ?_⟩
  try dsimp only [Cx.nox, cxOf, ent, List.map, List.length_cons, List.length_nil, List.replicate_succ, List.replicate_zero, List.cons_append, List.nil_append, List.set]
  refine go_deck (l := l) rfl fun cs sd n n0 n1 nl => ?_
  try dsimp only [List.set]
  have t1 : 1 ≤ top := ct.1
  have t2 : top < 1000000 := ct.2
  have o2 : ∀ {R0 : Option Ty}, OFx 0 [R0, some (tD K (.int top)), none, none] := .here (.yes tD_fx (.no (.no .nil)))
  have o3 : ∀ {R0 : Option Ty} {z : Int}, OFx 0 [R0, some (tD K (.int top)), some (tD K (.int z)), none] := .here (.yes tD_fx (.yes tD_fx (.no .nil)))
  refine qk_set rfl o2 (gv_i0 (gv_dk2 rfl) gv_int) ?_
  try dsimp only [List.set]
  refine q_set (gv_dk1 rfl) ?_
  try dsimp only [List.set]
  have lay : ∀ is : List Int, SeqAt.shaped (.list (is.map .int)) = true := fun is => by
    unfold SeqAt.shaped
    have h1 : PyData.canLay0 (.list (is.map .int)) = true := by
      simp only [PyData.canLay0]
      exact lay_all fun d hd => by
        obtain ⟨i, _, rfl⟩ := List.mem_map.mp hd
        simp [PyData.canLay0]
    have h2 : PyData.depth (.list (is.map .int)) ≤ 64 := by
      simp only [PyData.depth]
      have := dep_all (n := 0) (ds := is.map .int) fun d hd => by
        obtain ⟨i, _, rfl⟩ := List.mem_map.mp hd
        simp [PyData.depth]
      omega
    rw [h1, decide_eq_true h2]
    rfl
  refine q_join2 0 2 (tE (fun cs : List Int => cs.length ≤ 1000) fun cs => tDe a l cs sd (n + 1)) (tI K fun _ => True) (gb_val (gv_neLL (ds := cs.map .int) (es := []) (gv_dk0 rfl) (gv_lstd gd_nil rfl) (lay cs) (lay []))) (fun h k => ?_) (fun h k => ?_) ?_
  · have hne : cs ≠ [] := fun e => by
      rw [e] at h
      exact absurd h (by decide)
    obtain ⟨cs', z, e⟩ := snoc_of hne
    subst e
    have l' : cs'.length ≤ 999 := by
      rw [List.length_append] at nl
      simp at nl
      omega
    refine qk_pop (j := 2) rfl o3 ?_
    try dsimp only [List.set]
    refine go_if (gb_val (gv_b0 (gv_var rfl) (gv_i1 gv_int gv_int ⟨by decide, by decide, by decide⟩))) (fun _ => ?_) (fun _ => ?_)
    · refine qk_app (z := z.fdiv top) rfl o3 (by omega) (gv_i1 (gv_var rfl) (gv_var rfl) ⟨by omega, by omega⟩) ?_
      try dsimp only [List.set]
      refine gk_ret (P := tD K (.int (z.fmod top))) (R := tI K (inT top)) (n := c + 1) rfl (by omega) (by omega) (by rw [List.length_append]; simp; omega) (gv_i1 (gv_var rfl) (gv_var rfl) (by omega)) (fun v H h => ⟨_, ⟨Int.fmod_nonneg_of_pos _ (by omega), Int.fmod_lt_of_pos _ (by omega)⟩, h⟩) r
    · exact go_next (k.wk (.to (fun v H h => ⟨_, by omega, h⟩) (.keep (.to (fun v H h => ⟨_, trivial, h⟩) (.keep .nil)))))
  · exact go_next (k.wk (.to (fun v H h => ⟨_, nl, h⟩) (.keep (.to (fun v H h => ⟨_, trivial, h⟩) (.keep .nil)))))
  try dsimp only [List.set]
  refine go_open (i := 0) rfl fun cs2 l2 => ?_
  refine go_open (i := 2) rfl fun z _ => ?_
  try dsimp only [List.set]
  have p64 : (1000002 : Int) < 2 ^ 64 := by decide
  refine q_set (gv_i0 (gv_i0 (gv_i1 (gv_var rfl) gv_int (by decide)) (gv_i1 (gv_i1 gv_int (gv_dk2 rfl) (.inl ⟨by decide, by decide⟩)) (gv_dk2 rfl) (.inr ⟨by omega, by omega⟩))) gv_int) ?_
  try dsimp only [List.set]
  refine q_set (gv_i1 (gv_i1 (gv_var rfl) gv_int (.inr ⟨by decide, by decide⟩)) gv_int (by decide)) ?_
  try dsimp only [List.set]
  generalize hn : Int.fmod _ 2305843009213693951 = n2
  have n2a : 0 ≤ n2 := by rw [← hn]; exact Int.fmod_nonneg_of_pos _ (by decide)
  have n2b : n2 < 2305843009213693951 := by rw [← hn]; exact Int.fmod_lt_of_pos _ (by decide)
  refine q_set (gv_i1 (gv_i0 (gv_i0 (gv_i1 (gv_var rfl) (gv_var rfl) (.inl ⟨by omega, by omega⟩)) (gv_i1 gv_int (gv_var rfl) (.inl ⟨by decide, by decide⟩))) (gv_dk2 rfl)) gv_int (by decide)) ?_
  try dsimp only [List.set]
  refine gk_ret (R := tI K (inT top)) (n := c + 1) rfl (by omega) (by omega) l2 (gv_i1 (gv_i1 (gv_var rfl) gv_int ⟨by decide, by decide⟩) (gv_var rfl) (by omega)) (fun v H h => ⟨_, ⟨Int.fmod_nonneg_of_pos _ (by omega), Int.fmod_lt_of_pos _ (by omega)⟩, h⟩) r
theorem gx_draw {a l : Addr} {top : Int} {i : Nat} (hi : Γ[i]? = some (some (tV (.ref a)))) (ht : Gv Γ te (tD K (.int top))) (h1 : 1 ≤ top) (h2 : top < 1000000) : Gx a l 1 Γ (tCall (spDraw K) [] E0 (tCons (tVar i) (tCons te tNil))) (tI K (inT top)) := gx_call top hi (ga_cons ht ga_nil) rfl ⟨h1, h2⟩
end
end RP
set_option maxHeartbeats 4000000
namespace RP
open PySem PySem.Spec PyProof.Rows L2
section
variable {P : Program} {w : World} {K : PySem.W.Frag} {mg : Str → Option Value} {base : Heap} {Γ : Ctx} {ta tb tc td te : TE}
theorem max_of : ∀ {ns : List Int}, ns ≠ [] → ∃ m, m ∈ ns ∧ ∀ y ∈ ns, y ≤ m
  | [], h => absurd rfl h
  | [x], _ => ⟨x, .head _, fun y hy => by
    have : y = x := by simpa using hy
    omega⟩
  | x :: z :: ns, _ => by
    obtain ⟨m, h1, h2⟩ := max_of (ns := z :: ns) (fun e => nomatch e)
    by_cases q : m ≤ x
    · refine ⟨x, .head _, fun y hy => ?_⟩
      rcases List.mem_cons.mp hy with e | hy
      · omega
      · have := h2 y hy
        omega
    · refine ⟨m, .tail _ h1, fun y hy => ?_⟩
      rcases List.mem_cons.mp hy with e | hy
      · omega
      · exact h2 y hy
theorem tT4 {A B C D : Int → Prop} {v : V} {H : Hp} (h : (tT K [tI K A, tI K B, tI K C, tI K D]).p v H) : ∃ i j k n, A i ∧ B j ∧ C k ∧ D n ∧ (tD K (.tuple [.int i, .int j, .int k, .int n])).p v H := by
  obtain ⟨p, xs, e, h1, h2⟩ := h
  cases h2 with
  | cons x h2 =>
    cases h2 with
    | cons y h2 =>
      cases h2 with
      | cons z h2 =>
        cases h2 with
        | cons u h2 =>
          cases h2
          obtain ⟨i, ci, hi⟩ := x
          obtain ⟨j, cj, hj⟩ := y
          obtain ⟨k, ck, hk⟩ := z
          obtain ⟨n, cn, hn⟩ := u
          refine ⟨i, j, k, n, ci, cj, ck, cn, ?_⟩
          rw [e]
          exact .tup h1 (.cons hi (.cons hj (.cons hk (.cons hn .nil))))
theorem sc_law_options : FnScope ["_law_deck_here", "_law_talk_here", "_law_high"] ["_law_deck_here", "_law_talk_here"] (defScope s_law_options) := ⟨rfl, rfl, rfl, by decide +kernel, rfl, by decide +kernel, by decide +kernel⟩
def spOpts (K : PySem.W.Frag) : Sp := spX (fun t : Tk => TOk t) 4 (fun t => [tTalk K t]) (fun t => tE (fun o : Op => OOk t o) fun o => tD K (dOp o))
theorem c_law_options (T : Txt K mg) : Cal P w K mg base "_law_options" 2 [] (spOpts K) := by
  obtain ⟨fd, F⟩ := T.d_law_options
  refine ⟨_, fd, ["_law_deck_here", "_law_talk_here"], [], ?_, T.g_law_options, F.kp, F.bindsN (fun _ _ _ _ _ _ us hl => match us, hl with | [_, _], _ => rfl), .nil⟩
  refine draw_ok F sc_law_options (fun _ => rfl) fun cdv A outer s H E t hr ct => ⟨_, (pss_cons (ps_set (i := 2) sc_law_options.nd rfl (Or.inl rfl) (pe_op op_add (pe_callB (id := "max") (r := rMaxT K) (cr_maxT (by rfl)) (by rfl) T.f_max (by decide +kernel) (pa_cons (pe_fld (pv 1) rfl) pa_nil)) (pe_cal (c_law_draw T) hr (by decide) rfl (pa_cons (pv 0) (pa_cons pe_int pa_nil))))) (pss_one (ps_ret (pe_tup (pa_cons (pe_op op_add pe_int (pe_cal (c_law_draw T) hr (by decide) rfl (pa_cons (pv 0) (pa_cons pe_int pa_nil)))) (pa_cons (pe_op op_add pe_int (pe_cal (c_law_draw T) hr (by decide) rfl (pa_cons (pv 0) (pa_cons pe_int pa_nil)))) (pa_cons (pv 2) (pa_cons (pe_cal (c_law_draw T) hr (by decide) rfl (pa_cons (pv 0) (pa_cons pe_int pa_nil))) pa_nil)))))))), fun a l c D cb r => ?_⟩
  try dsimp only [Cx.nox, cxOf, ent, List.map, List.length_cons, List.length_nil, List.replicate_succ, List.replicate_zero, List.cons_append, List.nil_append, List.set]
  have tk : TOk t := ct
  obtain ⟨m, hm, hx⟩ := max_of (ns := t.len) (fun e => by
    have h0 := tk.pos
    unfold Tk.N at h0
    rw [e] at h0
    exact absurd h0 (by decide))
  have m5 := (tk.l1 m hm)
  have g0 : CtxFx [some (tV (.ref a)), some (tTalk K t), none] := .yes tV_fx (.yes tTalk_fx (.no .nil))
  refine qx_set (P := tI K fun z => m ≤ z ∧ z ≤ m + 8) g0 (gx_i0 (C1 := fun z => z = m) (C2 := inT 9) g0 (gx_iv (gv_cb1 (gv_Talk_lengths T (gv_var rfl)) (gc_maxT hm hx)) rfl) (gx_draw (i := 0) rfl gv_int (by decide) (by decide)) fun i j h1 h2 => by
    obtain ⟨h3, h4⟩ := h2
    omega) (by omega) ?_
  try dsimp only [List.set]
  refine go_open (i := 2) rfl fun z hz => ?_
  try dsimp only [List.set]
  have g1 : CtxFx [some (tV (.ref a)), some (tTalk K t), some (tD K (.int z))] := .yes tV_fx (.yes tTalk_fx (.yes tD_fx .nil))
  have gx1 : ∀ top : Int, 1 ≤ top → top < 1000000 → Gx a l (0 + 1) [some (tV (.ref a)), some (tTalk K t), some (tD K (.int z))] (tOp (rI0 fun i j => .int (i + j)) (tC (.int 1)) (tCall (spDraw K) [] E0 (tCons (tVar 0) (tCons (tC (.int top)) tNil)))) (tI K fun x => 1 ≤ x ∧ x ≤ top) := fun top h1 h2 =>
    gx_i0 (C1 := fun z => z = 1) (C2 := inT top) g1 (gx_int rfl) (gx_draw (i := 0) rfl gv_int h1 h2) fun i j h1 h2 => by
      obtain ⟨h3, h4⟩ := h2
      omega
  refine gox_ret (P := tT K [tI K fun x => 1 ≤ x ∧ x ≤ 6, tI K fun x => 1 ≤ x ∧ x ≤ 8, tI K fun x => x = z, tI K (inT 3)]) (gx_tupT (gxa_cons g1 tI_fx (gx1 6 (by decide) (by decide)) (gxa_cons g1 tI_fx (gx1 8 (by decide) (by decide)) (gxa_cons g1 tI_fx (gx_iv (gv_var rfl) rfl) (gxa_cons g1 tI_fx (gx_draw (i := 0) rfl gv_int (by decide) (by decide)) gxa_nil)))) rfl) (by omega) fun v H' hs hd h => ?_
  obtain ⟨i, j, k, n, h1, h2, h3, h4, h5⟩ := tT4 h
  have h3 : k = z := h3
  have h4 : 0 ≤ n ∧ n < 3 := h4
  refine r v H' hs (hd.mono (by omega)) ⟨⟨i, j, k, n⟩, ⟨⟨h1.1, ?_⟩, ⟨h2.1, ?_⟩, fun y hy => ?_, ?_, ⟨h4.1, ?_⟩⟩, h5⟩
  · show i ≤ 100
    omega
  · show j ≤ 100
    omega
  · have := hx y hy
    show y ≤ k
    omega
  · show k ≤ 100
    omega
  · show n ≤ 10
    omega
end
end RP
set_option maxHeartbeats 4000000
namespace RP
open PySem PySem.Spec PyProof.Rows L2
section
variable {K : PySem.W.Frag} {Γ : Ctx} {ta tb te : TE} {t : TA} {A R : Ty} {Qs : List Ty} {a l : Addr} {n m : Nat}
theorem gxa_one (ha : Gx a l n Γ ta A) : Gxa a l n Γ (tCons ta tNil) [A] := fun σ H Q c s d b q => ha σ H _ c s d b fun x H1 e1 d1 hx => q [x] H1 e1 d1 (.cons hx .nil)
theorem gx_make {κ : Type} {Co : Addr} {Cd : κ → Prop} {Ps : κ → List Ty} {fs : κ → List (Str × Ty)} (hs : Gxa a l n Γ t Qs) (hi : ∀ vs H, Pv H Qs vs → ∃ i, Cd i ∧ Pv H (Ps i) vs ∧ ∀ v H, (tO Co (fs i)).p v H → R.p v H) : Gx a l n Γ (tMake Co (spI Co Cd Ps fs) [] E0 t) R := fun σ H Q c s d b q =>
  hs σ H _ c s d b fun vs H1 e1 d1 h1 x dx nx nd _ => by
    obtain ⟨i, ci, hp, hr⟩ := hi vs H1 h1
    exact ⟨i, x, dx, vs, ci, by rw [List.append_nil], upd_same, hp.up (made_up nx nd), fun H' k ⟨us, h2, h3⟩ => ⟨rfl, q _ H' (e1.trans (.of (made_same nx nd k))) (d1.up (made_same nx nd k)) (hr _ _ ⟨x, dx, us, rfl, h2, h3⟩)⟩⟩
end
section
variable {P : Program} {w : World} {K : PySem.W.Frag} {mg : Str → Option Value} {base : Heap} {Γ : Ctx} {ta tb tc td te : TE}
theorem sc_law_talk : FnScope ["_law_deck_here", "_law_most_stretches", "_law_unit", "_law_count", "_law_width", "_law_lengths", "_law_k", "_law_j"] ["_law_deck_here", "_law_most_stretches", "_law_unit"] (defScope s_law_talk) := ⟨rfl, rfl, rfl, by decide +kernel, rfl, by decide +kernel, by decide +kernel⟩
def spTalkX (K : PySem.W.Frag) : Sp := spX (fun i : Int × Int => (1 ≤ i.1 ∧ i.1 ≤ 6) ∧ 1 ≤ i.2 ∧ i.2 ≤ 4) 32 (fun i => [tD K (.int i.1), tD K (.int i.2)]) (fun _ => tE (fun t : Tk => TOk t) (tTalk K))
theorem c_law_talk (T : Txt K mg) : Cal P w K mg base "_law_talk" 3 [] (spTalkX K) := by
  obtain ⟨fd, F⟩ := T.d_law_talk
  refine ⟨_, fd, ["_law_deck_here", "_law_most_stretches", "_law_unit"], [], ?_, T.g_law_talk, F.kp, F.bindsN (fun _ _ _ _ _ _ us hl => match us, hl with | [_, _, _], _ => rfl), .nil⟩
  refine draw_ok F sc_law_talk (fun _ => rfl) fun cdv A outer s H E i hr ct => ⟨_, (pss_cons (ps_set (i := 3) sc_law_talk.nd rfl (Or.inl rfl) (pe_op op_add pe_int (pe_cal (c_law_draw T) hr (by decide) rfl (pa_cons (pv 0) (pa_cons (pv 1) pa_nil))))) (pss_cons (ps_set (i := 4) sc_law_talk.nd rfl (Or.inr rfl) (pe_op op_add pe_int (pe_cal (c_law_draw T) hr (by decide) rfl (pa_cons (pv 0) (pa_cons pe_int pa_nil))))) (pss_cons (ps_set (i := 5) sc_law_talk.nd rfl (Or.inl rfl) (pe_callTy (T := "tuple") (r := rTupOf K) call_tuple_of (by rfl) T.f_tuple (by decide +kernel) (pa_cons (pe_lc (own := [("_law_k", 6)]) (g := gName 6) (tt := tYes) (by rfl) sc_law_talk.nd (pi_range1 (by rfl) T.f_range (pa_cons (pv 3) pa_nil)) (blkOk_by (own := [("_law_k", 6)]) (N := ["_law_deck_here", "_law_most_stretches", "_law_unit", "_law_count", "_law_width", "_law_lengths", "_law_k", "_law_j"]) (sc := defScope s_law_talk) (by decide +kernel)) (fun _ _ _ _ _ => pg_name (i := 6) sc_law_talk.nd rfl (Or.inl rfl)) (fun _ _ _ _ _ => pts_nil) (fun _ _ _ _ _ => (pe_op op_add pe_int (pe_cal (c_law_draw T) hr (by decide) rfl (pa_cons (pv 0) (pa_cons pe_int pa_nil)))))) pa_nil))) (pss_one (ps_ret (pe_calC (c_Talk_init T) hr (by decide) rfl (pa_cons (pv 5) (pa_cons (pe_callTy (T := "tuple") (r := rTupOf K) call_tuple_of (by rfl) T.f_tuple (by decide +kernel) (pa_cons (pe_lc (own := [("_law_k", 6)]) (g := gName 6) (tt := tYes) (by rfl) sc_law_talk.nd (pi_range1 (by rfl) T.f_range (pa_cons (pv 3) pa_nil)) (blkOk_by (own := [("_law_k", 6)]) (N := ["_law_deck_here", "_law_most_stretches", "_law_unit", "_law_count", "_law_width", "_law_lengths", "_law_k", "_law_j"]) (sc := defScope s_law_talk) (by decide +kernel)) (fun _ _ _ _ _ => pg_name (i := 6) sc_law_talk.nd rfl (Or.inl rfl)) (fun _ _ _ _ _ => pts_nil) (fun _ _ _ _ _ => (pe_callTy (T := "tuple") (r := rTupOf K) call_tuple_of (by rfl) T.f_tuple (by decide +kernel) (pa_cons (pe_lc (own := [("_law_j", 7)]) (g := gName 7) (tt := tYes) (by rfl) sc_law_talk.nd (pi_range1 (by rfl) T.f_range (pa_cons (pv 4) pa_nil)) (blkOk_by (own := [("_law_j", 7)]) (N := ["_law_deck_here", "_law_most_stretches", "_law_unit", "_law_count", "_law_width", "_law_lengths", "_law_k", "_law_j"]) (sc := _) (by rfl)) (fun _ _ _ _ _ => pg_name (i := 7) sc_law_talk.nd rfl (Or.inl rfl)) (fun _ _ _ _ _ => pts_nil) (fun _ _ _ _ _ => (pe_op op_add (pv 2) (pe_cal (c_law_draw T) hr (by decide) rfl (pa_cons (pv 0) (pa_cons (pe_op op_mul pe_int (pv 2)) pa_nil)))))) pa_nil)))) pa_nil)) pa_nil)))))))), fun a l c D cb r => ?_⟩
  try dsimp only [Cx.nox, cxOf, ent, List.map, List.length_cons, List.length_nil, List.replicate_succ, List.replicate_zero, List.cons_append, List.nil_append, List.set]
  obtain ⟨mo, un⟩ := i
  obtain ⟨⟨m1, m6⟩, u1, u4⟩ : (1 ≤ mo ∧ mo ≤ 6) ∧ 1 ≤ un ∧ un ≤ 4 := ct
  have g0 : CtxFx [some (tV (.ref a)), some (tD K (.int mo)), some (tD K (.int un)), none, none, none, none, none] := .yes tV_fx (.yes tD_fx (.yes tD_fx (.no (.no (.no (.no (.no .nil)))))))
  refine qx_set (P := tI K fun z => 1 ≤ z ∧ z ≤ mo) g0 (gx_i0 (C1 := fun z => z = 1) (C2 := inT mo) g0 (gx_int rfl) (gx_draw (i := 0) rfl (gv_var rfl) m1 (by omega)) fun i j h1 h2 => by
    obtain ⟨h3, h4⟩ := h2
    omega) (by omega) ?_
  try dsimp only [List.set]
  refine go_open (i := 3) rfl fun cnt hc => ?_
  try dsimp only [List.set]
  obtain ⟨cn, rfl⟩ : ∃ cn : Nat, cnt = (cn : Int) := ⟨cnt.toNat, by omega⟩
  have g1 : CtxFx [some (tV (.ref a)), some (tD K (.int mo)), some (tD K (.int un)), some (tD K (.int cn)), none, none, none, none] := .yes tV_fx (.yes tD_fx (.yes tD_fx (.yes tD_fx (.no (.no (.no (.no .nil)))))))
  refine qx_set (P := tI K fun z => 1 ≤ z ∧ z ≤ 4) g1 (gx_i0 (C1 := fun z => z = 1) (C2 := inT 4) g1 (gx_int rfl) (gx_draw (i := 0) rfl gv_int (by decide) (by decide)) fun i j h1 h2 => by
    obtain ⟨h3, h4⟩ := h2
    omega) (by omega) ?_
  try dsimp only [List.set]
  refine go_open (i := 4) rfl fun wd hw => ?_
  try dsimp only [List.set]
  obtain ⟨wn, rfl⟩ : ∃ wn : Nat, wd = (wn : Int) := ⟨wd.toNat, by omega⟩
  have c6 : cn ≤ 6 := by omega
  have w4 : wn ≤ 4 := by omega
  have cw : cn * wn ≤ 24 := Nat.mul_le_mul c6 w4
  have g2 : ∀ {R5 : Option Ty}, CtxFx [R5, none, none] → CtxFx [some (tV (.ref a)), some (tD K (.int mo)), some (tD K (.int un)), some (tD K (.int cn)), some (tD K (.int wn)), R5, none, none] := fun h => .yes tV_fx (.yes tD_fx (.yes tD_fx (.yes tD_fx (.yes tD_fx h))))
  have n2 : CtxFx [none, none, none] := .no (.no (.no .nil))
  refine qx_set (g2 n2) (gx_cb (gxa_one (gx_lc (ι := Int) (C := fun z => 1 ≤ z ∧ z ≤ 5) (f := .int) (n := cn) (T := fun i => tD K (.int (i : Nat))) (g2 n2) (fun _ => tD_fx) (gi_rng (n := (cn : Int)) (ga_cons (gv_var rfl) ga_nil) ⟨by omega, by omega⟩ fun _ => rfl) (by omega)
    fun i hi => gx_i0 (C1 := fun z => z = 1) (C2 := inT 5) (.yes tV_fx (.yes tD_fx (.yes tD_fx (.yes tD_fx (.yes tD_fx (.no (.yes tD_fx (.no .nil)))))))) (gx_int rfl) (gx_draw (i := 0) rfl gv_int (by decide) (by decide)) fun i j h1 h2 => by
      obtain ⟨h3, h4⟩ := h2
      omega)) gc_tupE) (by omega) ?_
  try dsimp only [List.set]
  refine go_open (i := 5) rfl fun lens hl => ?_
  try dsimp only [List.set]
  obtain ⟨hl1, hl2⟩ := hl
  have g3 : CtxFx [some (tV (.ref a)), some (tD K (.int mo)), some (tD K (.int un)), some (tD K (.int cn)), some (tD K (.int wn)), some (tD K (dI lens)), none, none] := g2 (.yes tD_fx (.no (.no .nil)))
  have g4 : ∀ {z : Int}, CtxFx [some (tV (.ref a)), some (tD K (.int mo)), some (tD K (.int un)), some (tD K (.int cn)), some (tD K (.int wn)), some (tD K (dI lens)), some (tD K (.int z)), none] := .yes tV_fx (.yes tD_fx (.yes tD_fx (.yes tD_fx (.yes tD_fx (.yes tD_fx (.yes tD_fx (.no .nil)))))))
  have g5 : ∀ {z y : Int}, CtxFx [some (tV (.ref a)), some (tD K (.int mo)), some (tD K (.int un)), some (tD K (.int cn)), some (tD K (.int wn)), some (tD K (dI lens)), some (tD K (.int z)), some (tD K (.int y))] := .yes tV_fx (.yes tD_fx (.yes tD_fx (.yes tD_fx (.yes tD_fx (.yes tD_fx (.yes tD_fx (.yes tD_fx .nil)))))))
  refine gox_ret (P := tE (fun t : Tk => TOk t) (tTalk K)) (gx_make (gxa_cons g3 tD_fx (gx_of (gv_var rfl)) (gxa_one (gx_cb (gxa_one (gx_lc (ι := List Int) (C := fun row => row.length = wn ∧ ∀ z ∈ row, 1 ≤ z ∧ z ≤ 16) (f := dI) (n := cn) (T := fun i => tD K (.int (i : Nat))) g3 (fun _ => tD_fx) (gi_rng (n := (cn : Int)) (ga_cons (gv_var rfl) ga_nil) ⟨by omega, by omega⟩ fun _ => rfl) (by omega)
    fun i hi => gx_cb (gxa_one (gx_lc (ι := Int) (C := fun z => 1 ≤ z ∧ z ≤ 16) (f := .int) (n := wn) (T := fun i => tD K (.int (i : Nat))) g4 (fun _ => tD_fx) (gi_rng (n := (wn : Int)) (ga_cons (gv_var rfl) ga_nil) ⟨by omega, by omega⟩ fun _ => rfl) (by omega)
      fun j hj => gx_i0 (C1 := fun z => z = un) (C2 := inT (3 * un)) g5 (gx_iv (gv_var rfl) rfl) (gx_draw (i := 0) rfl (gv_i1 gv_int (gv_var rfl) (.inl ⟨by decide, by decide⟩)) (by omega) (by omega)) fun i j h1 h2 => by
        obtain ⟨h3, h4⟩ := h2
        omega)) gc_tupE)) gc_tupE))) fun vs H1 hv => ?_) (by simp only [Nat.zero_add, Nat.mul_one]; omega) fun v H' hs hd h => r v H' hs (hd.mono (by simp only [Nat.zero_add, Nat.mul_one]; omega)) h
  cases hv with
  | cons h1 t1 =>
    obtain ⟨u, e, rows, hr1, h2⟩ := t1.one
    subst e
    obtain ⟨hr2, hr3⟩ := hr1
    refine ⟨⟨lens, rows⟩, trivial, .cons h1 (.cons h2 .nil), fun v H h => ⟨⟨lens, rows⟩, ?_, h⟩⟩
    have hW : Tk.W ⟨lens, rows⟩ = wn := by
      show (rows.headD []).length = wn
      cases rows with
      | nil =>
        have : cn = 0 := hr2.symm
        omega
      | cons x rs => exact (hr3 x (.head _)).1
    refine ⟨by show 0 < lens.length; omega, by show lens.length ≤ 6; omega, by show rows.length = lens.length; omega, hl2, fun x hx => by rw [hW]; exact (hr3 x hx).1, by rw [hW]; omega, fun x hx => (hr3 x hx).2⟩
end
end RP
set_option maxHeartbeats 4000000
namespace RP
open PySem PySem.Spec PyProof.Rows L2
section
variable {P : Program} {w : World} {K : PySem.W.Frag} {mg : Str → Option Value} {base : Heap} {Γ : Ctx} {ta tb tc td te : TE}
theorem gc_lstT {ds : List PyData} : Gc (fun xs H Q => ∃ p ys, xs = [.ref p] ∧ (SqL K H p ys ∨ SqT K H p ys) ∧ ∀ l, H l = none → Q (.ref l) (upd H l (.lst ys))) [tD K (.tuple ds)] (tL K ds) := fun vs H Q hv q => by
  obtain ⟨v, rfl, h⟩ := hv.one
  obtain ⟨a, xs, e, h1, h2⟩ := Du.tup_inv h
  subst e
  exact ⟨a, xs, rfl, .inr h1, fun l hl => q _ _ (same_new hl) ⟨l, xs, rfl, SqL.of upd_same, h2.im (.of (same_new hl))⟩⟩
theorem GvL.eq {ds es : List PyData} (h : Gv Γ te (tL K ds)) (e : ds = es) : Gv Γ te (tL K es) := e ▸ h
theorem gc_lstL {ds : List PyData} : Gc (fun xs H Q => ∃ p ys, xs = [.ref p] ∧ (SqL K H p ys ∨ SqT K H p ys) ∧ ∀ l, H l = none → Q (.ref l) (upd H l (.lst ys))) [tL K ds] (tL K ds) := fun vs H Q hv q => by
  obtain ⟨v, rfl, h⟩ := hv.one
  obtain ⟨a, xs, e, h1, h2⟩ := h
  subst e
  exact ⟨a, xs, rfl, .inl h1, fun l hl => q _ _ (same_new hl) ⟨l, xs, rfl, SqL.of upd_same, h2.im (.of (same_new hl))⟩⟩
theorem sc_law_deck : FnScope ["_law_script", "_law_cells", "_law_seed", "_law_cell"] ["_law_script"] (defScope s_law_deck) := ⟨rfl, rfl, rfl, by decide +kernel, rfl, by decide +kernel, by decide +kernel⟩
def spDeck (K : PySem.W.Frag) : Sp := spP (fun ns : List Int => ns.length ≤ 63) (fun ns => [tL K (ns.map .int)]) (fun _ => tDk 0)
theorem c_law_deck (T : Txt K mg) : Cal P w K mg base "_law_deck" 1 [] (spDeck K) := by
  obtain ⟨fd, F⟩ := T.d_law_deck
  refine ⟨_, fd, ["_law_script"], [], ?_, T.g_law_deck, F.kp, F.bindsN (fun _ _ _ _ _ _ us hl => match us, hl with | [_], _ => rfl), .nil⟩
  refine pure_ok F sc_law_deck (fun _ => rfl) fun cdv A outer s H E ns hr c => ⟨_, (pss_cons (ps_set (i := 1) sc_law_deck.nd rfl (Or.inl rfl) (pe_callTy (T := "list") call_list_of (by rfl) T.f_list (by decide +kernel) (pa_cons (pe_slice (r := rSlL K) sl_list (pv 0) po_none (po_some pe_int)) pa_nil))) (pss_cons (ps_set (i := 2) sc_law_deck.nd rfl (Or.inl rfl) pe_int) (pss_cons (ps_for PassesOwn.never rfl (pi_list (pv 1)) (pg_name (i := 3) sc_law_deck.nd rfl (Or.inl rfl)) (pss_one (ps_set (i := 2) sc_law_deck.nd rfl (Or.inl rfl) (pe_op op_modN (pe_op op_add (pe_op op_add (pe_op op_mul (pv 2) pe_int) (pv 3)) pe_int) pe_int)))) (pss_one (ps_ret (pe_lst (pa_cons (pe_revL (pv 1)) (pa_cons (pv 2) (pa_cons pe_int pa_nil))))))))), fun M D r nn => ?_⟩
  try dsimp only [Cx.nox, cxOf, ent, List.map, List.length_cons, List.length_nil, List.replicate_succ, List.replicate_zero, List.cons_append, List.nil_append, List.set]
  have l63 : ns.length ≤ 63 := c
  refine q_set (P := tL K (ns.map .int)) (gv_cb1 (A := tL K (ns.map .int)) (GvL.eq (gv_sliceL (ds := ns.map .int) (gv_var rfl) (lo := none) (hi := some 63) go1_none (go1_some (gv_int (K := K)))) (by
    have e : cutD (ns.map PyData.int) none (some ((63 : Nat) : Int)) = _ := cut_take
    have e2 : cutD (ns.map PyData.int) none (some 63) = ns.map .int := e.trans (List.take_of_length_le (by rw [List.length_map]; exact l63))
    rw [e2])) gc_lstL) ?_
  try dsimp only [List.set]
  refine q_set (gv_int (K := K)) ?_
  try dsimp only [List.set]
  refine q_forS (n := (ns.map PyData.int).length) (T := fun i => tD K (.int (ns.getD i 0))) (gis_list (ds := ns.map .int) (gv_var rfl) fun i d hd => ?_) (fun _ => [some (tL K (ns.map .int)), some (tL K (ns.map .int)), some (tI K fun _ => True), none]) (fun σ H s => s.wk (.keep (.keep (.to (fun v H h => ⟨_, trivial, h⟩) (.any .nil))))) (fun i hi M' nx hM hn => ⟨_, gt_name, ?_⟩) ?_
  · rw [List.getElem?_map] at hd
    cases q : ns[i]? with
    | none => rw [q] at hd; cases hd
    | some z =>
      rw [q] at hd
      cases hd
      show tD K (.int (ns.getD i 0)) = _
      rw [List.getD_eq_getElem?_getD, q]
      rfl
  · try dsimp only [List.set]
    refine go_open (i := 2) rfl fun x _ => ?_
    try dsimp only [List.set]
    exact go_set (gv_i1 (gv_i0 (gv_i0 (gv_i1 (gv_var rfl) gv_int (.inr ⟨by decide, by decide⟩)) (gv_var rfl)) gv_int) gv_int (by decide)) (hn.wk (.keep (.keep (.to (fun v H h => ⟨_, trivial, h⟩) (.any .nil)))))
  · exact go_ret (gv_deck (gv_revL (gv_var rfl) (by omega)) (gv_var rfl)) r fun _ _ h => h
end
end RP
set_option maxHeartbeats 4000000
namespace RP
open PySem PySem.Spec PyProof.Rows L2
section
variable {P : Program} {w : World} {K : PySem.W.Frag} {mg : Str → Option Value} {base : Heap} {Γ : Ctx} {ta tb tc td te tf' tv tg : TE}
/-! ### tapes -/
abbrev fTape (P : Program) (w : World) (K : PySem.W.Frag) (mg : Str → Option Value) (base : Heap) (i : Wj) (d : Addr) : List (Str × Ty) :=
  [("talk_told", tTalk K i.t), ("chooser_told", tCz P w K mg base i.t.N i.c), ("options_told", tD K (.tuple [.int i.o.beg, .int i.o.aga, .int i.o.mst, .int i.o.wai])), ("paces", tV (.ref d))]
abbrev tTape (P : Program) (w : World) (K : PySem.W.Frag) (mg : Str → Option Value) (base : Heap) (i : Wj) (d : Addr) : Ty := tO (cTape K) (fTape P w K mg base i d)
theorem tTape_fx {i : Wj} {d : Addr} : (tTape P w K mg base i d).Fx := tO_fx (by show (["talk_told", "chooser_told", "options_told", "paces"] : List Str) ∈ fixed; decide +kernel)
  (FldFx.mem (.cons tTalk_fx (.cons tCz_fx (.cons tD_fx (.cons tV_fx .nil)))))
/-- a tape, its dict -/
def tTp (P : Program) (w : World) (K : PySem.W.Frag) (mg : Str → Option Value) (base : Heap) (i : Wj) (d : Addr) (kvs : Kv) : Ty := ⟨fun v H => (tTape P w K mg base i d).p v H ∧ H d = some (.dK kvs), fun e h => ⟨(tTape P w K mg base i d).up e h.1, e _ _ h.2⟩⟩
section
variable {i : Wj} {d : Addr}
theorem gv_T_talk (T : Txt K mg) (h : Gv Γ te (tTape P w K mg base i d)) : Gv Γ (tFld K te "talk_told") (tTalk K i.t) := gv_fld h T.c_Tape T.n_Tape_talk_told (by rfl)
theorem gv_T_chooser (T : Txt K mg) (h : Gv Γ te (tTape P w K mg base i d)) : Gv Γ (tFld K te "chooser_told") (tCz P w K mg base i.t.N i.c) := gv_fld h T.c_Tape T.n_Tape_chooser_told (by rfl)
theorem gv_T_options (T : Txt K mg) (h : Gv Γ te (tTape P w K mg base i d)) : Gv Γ (tFld K te "options_told") (tD K (.tuple [.int i.o.beg, .int i.o.aga, .int i.o.mst, .int i.o.wai])) := gv_fld h T.c_Tape T.n_Tape_options_told (by rfl)
theorem gv_T_paces (T : Txt K mg) (h : Gv Γ te (tTape P w K mg base i d)) : Gv Γ (tFld K te "paces") (tV (.ref d)) := gv_fld h T.c_Tape T.n_Tape_paces (by rfl)
end
theorem sc_Tape_init : FnScope ["self", "talk", "chooser", "begin", "again", "most", "wait"] ["self", "talk", "chooser", "begin", "again", "most", "wait"] (defScope s_Tape_init) := ⟨rfl, rfl, rfl, by decide +kernel, rfl, by decide +kernel, by decide +kernel⟩
abbrev tpTy (P : Program) (w : World) (K : PySem.W.Frag) (mg : Str → Option Value) (base : Heap) (i : Wj) : List Ty := [tTalk K i.t, tCz P w K mg base i.t.N i.c, tD K (.int i.o.beg), tD K (.int i.o.aga), tD K (.int i.o.mst), tD K (.int i.o.wai)]
def spTape (P : Program) (w : World) (K : PySem.W.Frag) (mg : Str → Option Value) (base : Heap) : Sp := fun vs H Q _ => ∃ (i : Wj) (a dx : Addr) (ws : List V), (TOk i.t ∧ OOk i.t i.o) ∧ vs = .ref a :: ws ∧ H a = some (.ins (cTape K) dx []) ∧ Pv H (tpTy P w K mg base i) ws ∧
  ∀ H' d, H d = none → (∀ b o, b ≠ a → H b = some o → H' b = some o) → (∃ us, H' a = some (.ins (cTape K) dx us) ∧ Flds H' us (fTape P w K mg base i d)) → H' d = some (.dK []) → Q .non H'
theorem f_Tape_init (T : Txt K mg) : CalCK P w K mg base "Tape" (cTape K) 2 2 kwO gApp (spTape P w K mg base) := by
  obtain ⟨fd, F⟩ := T.d_Tape_init
  obtain ⟨mv, B⟩ := F.kbinds0 (ps := ["self", "talk", "chooser", "begin", "again", "most", "wait"]) 3 kwO [] (fun us _ ws => us ++ ws) (fun h => nomatch h) (fun _ h => nomatch h) (fun r _ q => r.append q)
    (fun D doc pm an cdv ct us mv ws h1 h2 h3 => match us, ws, h1, h3 with | [_, _, _], [_, _, _, _], _, _ => rfl)
  refine ⟨_, fd, _, _, ?_, T.g_Tape, T.k_Tape, B⟩
  refine F.ok sc_Tape_init (fun vs H Q E ⟨i, a, dx, ws, _, e, _, h, _⟩ => by rw [e, List.length_cons, h.len]; rfl) fun cdv A outer s H vs Q E hr ⟨i, a, dx, ws, c, e, ha, h, q⟩ => ?_
  refine ⟨_, PSs.nox (pss_cons (ps_expr (pe_cal (c_look_room T) hr (by decide) rfl (pa_cons (pv 1) (pa_cons (pv 5) pa_nil)))) (pss_cons (ps_fld (pv 0) (pv 1) rfl) (pss_cons (ps_fld (pv 0) (pv 2) rfl) (pss_cons (ps_fld (pv 0) (pe_tup (pa_cons (pv 3) (pa_cons (pv 4) (pa_cons (pv 5) (pa_cons (pv 6) pa_nil))))) rfl) (pss_one (ps_fld (pv 0) pe_dnewK rfl)))))), ?_⟩
  have s0 : Sat (ent ["self", "talk", "chooser", "begin", "again", "most", "wait"] (tV (.ref a) :: tpTy P w K mg base i)) (L2.start ["self", "talk", "chooser", "begin", "again", "most", "wait"] vs) H := by
    rw [e]
    exact (Pv.cons (P := tV (.ref a)) rfl h).ent
  have m0 : (Mi a (cTape K) dx H []).p H := ⟨fun b o _ e => e, [], ha, .nil⟩
  refine go_run (M := Mi a (cTape K) dx H []) ?_ m0 s0
  try dsimp only [Cx.nox, cxOf, ent, List.map, List.length_cons, List.length_nil, List.replicate_succ, List.replicate_zero, List.cons_append, List.nil_append, List.set]
  have g : ∀ P', some P' ∈ ent ["self", "talk", "chooser", "begin", "again", "most", "wait"] (tV (.ref a) :: tpTy P w K mg base i) → P'.Fx :=
    AllFx.ctx (.cons tV_fx (.cons tTalk_fx (.cons tCz_fx (.cons tD_fx (.cons tD_fx (.cons tD_fx (.cons tD_fx .nil)))))))
  refine q_drop (r_look_room (gv_var rfl) (gv_var rfl) (Nat.le_trans c.1.len6 (by decide)) c.2.m) ?_
  refine s_fld rfl (gv_var rfl) T.c_Tape T.n_Tape_talk_told g (FldFx.mem .nil) tTalk_fx [] rfl (by decide +kernel) ?_
  refine s_fld rfl (gv_var rfl) T.c_Tape T.n_Tape_chooser_told g (FldFx.mem (.cons tTalk_fx .nil)) tCz_fx ["talk_told"] rfl (by decide +kernel) ?_
  refine s_fld rfl (gv_tupd (gd_cons (gv_var rfl) (gd_cons (gv_var rfl) (gd_cons (gv_var rfl) (gd_cons (gv_var rfl) gd_nil)))) rfl) T.c_Tape T.n_Tape_options_told g (FldFx.mem (.cons tTalk_fx (.cons tCz_fx .nil))) tD_fx ["talk_told", "chooser_told"] rfl (by decide +kernel) ?_
  have x3 : FldFx [("talk_told", tTalk K i.t), ("chooser_told", tCz P w K mg base i.t.N i.c), ("options_told", tD K (.tuple [.int i.o.beg, .int i.o.aga, .int i.o.mst, .int i.o.wai]))] := .cons tTalk_fx (.cons tCz_fx (.cons tD_fx .nil))
  intro σ H1 m1 s1 d hd
  have e1 : Same H1 (upd H1 d (.dK [])) := same_new hd
  obtain ⟨x, h1, h2⟩ := (s1.up e1).at_ 0 _ rfl
  have hp : fresh ["talk_told", "chooser_told", "options_told"] "paces" = true := by decide +kernel
  have hH : H d = none := by
    cases z : H d with
    | none => rfl
    | some o =>
      obtain ⟨k1, us, k2, _⟩ := id m1
      by_cases y : d = a
      · rw [y, k2] at hd
        cases hd
      · rw [k1 d o y z] at hd
        cases hd
  obtain ⟨us, h3, h4, im, m2⟩ := mi_put (P := tV (.ref d)) (v := .ref d) ((Mi a (cTape K) dx H _).up e1 m1) (fresh_to (ns := ["talk_told", "chooser_told", "options_told"]) rfl hp).1 (fresh_to (ns := ["talk_told", "chooser_told", "options_told"]) rfl hp).2 x3.mem tV_fx rfl
  have nda : d ≠ a := fun z => by
    obtain ⟨_, us', k2, _⟩ := id m1
    rw [z, k2] at hd
    cases hd
  exact ⟨x, h1, a, cTape K, dx, us, h2, h3, T.c_Tape, T.n_Tape_paces, h4, q _ d hH m2.1 m2.2 (by rw [upd_ne nda]; exact upd_same)⟩
end
end RP
set_option maxHeartbeats 4000000
namespace RP
open PySem PySem.Spec PyProof.Rows L2
section
variable {P : Program} {w : World} {K : PySem.W.Frag} {mg : Str → Option Value} {base : Heap} {Γ : Ctx} {ta tb tc td te tf' tv tg : TE}
theorem sc_Tape_tell : FnScope ["self", "beat", "speed", "thing"] ["self", "beat", "speed"] (defScope s_Tape_tell) := ⟨rfl, rfl, rfl, by decide +kernel, rfl, by decide +kernel, by decide +kernel⟩
/-- a speed told: the dict alone changes -/
def spTell (P : Program) (w : World) (K : PySem.W.Frag) (mg : Str → Option Value) (base : Heap) : Sp := fun vs H Q _ => ∃ (i : Wj) (d : Addr) (kvs : Kv) (x : V) (b n : Int), vs = [x, .int b, .int n] ∧ (tTape P w K mg base i d).p x H ∧ H d = some (.dK kvs) ∧ kvs.length ≤ 1000 ∧ 0 ≤ b ∧ 0 ≤ n ∧
  ∀ H', (∀ c o, c ≠ d → H c = some o → H' c = some o) → H' d = some (.dK (putK kvs (.inl b) (.int n))) → Q .non H'
theorem c_Tape_tell (T : Txt K mg) : CalM P w K mg base (cTape K) "tell" 2 (spTell P w K mg base) := by
  obtain ⟨fd, F⟩ := T.d_Tape_tell
  refine ⟨_, fd, ["self", "beat", "speed"], ?_, T.m_Tape_tell, F.bindsN (fun _ _ _ _ _ _ us hl => match us, hl with | [_, _, _], _ => rfl)⟩
  refine F.ok sc_Tape_tell (fun vs H Q E ⟨i, d, kvs, x, b, n, e, _⟩ => by rw [e]; rfl) fun cdv A outer s H vs Q E hr ⟨i, d, kvs, x, b, n, e, hx, hd, hz, hb, hn, q⟩ => ?_
  refine ⟨_, PSs.nox (pss_cons (ps_for PassesOwn.never rfl (pi_tup (pe_tup (pa_cons (pv 1) (pa_cons (pv 2) pa_nil)))) (pg_name (i := 3) sc_Tape_tell.nd rfl (Or.inl rfl)) (pss_one (ps_if (pt_not (pt_val (pe_cal (c_is_count T) hr (by decide) rfl (pa_cons (pv 3) pa_nil)))) (pss_one ps_never) pss_nil))) (pss_one (ps_asg (pv 2) (pg_sub (pe_fld (pv 0) rfl) (pv 1) (set_dict (hu_of hr)))))), ?_⟩
  subst e
  have s0 : Sat (ent ["self", "beat", "speed", "thing"] [tTape P w K mg base i d, tD K (.int b), tD K (.int n)]) (L2.start ["self", "beat", "speed", "thing"] [x, .int b, .int n]) H := (Pv.cons hx (Pv.cons (P := tD K (.int b)) (.int b) (Pv.cons (P := tD K (.int n)) (.int n) .nil))).ent
  refine go_run (M := Hm.of H) ?_ (Same.refl H) s0
  try dsimp only [Cx.nox, cxOf, ent, List.map, List.length_cons, List.length_nil, List.replicate_succ, List.replicate_zero, List.cons_append, List.nil_append, List.set]
  refine q_for (n := [b, n].length) (T := fun k => tD K (.int ([b, n].getD k 0))) (gi_ints (ns := [b, n]) (gv_tupd (gd_cons (gv_var rfl) (gd_cons (gv_var rfl) gd_nil)) rfl)) (fun k => [some (tTape P w K mg base i d), some (tD K (.int b)), some (tD K (.int n)), none]) (fun σ H s => s.wk (.keep (.keep (.keep (.any .nil))))) (fun k hk M' nx hM hnx => ⟨_, gt_name, ?_⟩) ?_
  · try dsimp only [List.set]
    have h0 : 0 ≤ [b, n].getD k 0 := match k, hk with
      | 0, _ => hb
      | 1, _ => hn
    refine go_if (gb_not (gb_b (r_is_count (gv_var rfl)))) (fun h => ?_) (fun h => ?_)
    · rw [decide_eq_true h0] at h
      cases h
    · exact go_next (hnx.wk (.keep (.keep (.keep (.any .nil)))))
  · intro σ H1 m1 s1
    obtain ⟨y, h1, h2⟩ := s1.at_ 2 _ rfl
    obtain rfl := Du.int_inv h2
    obtain ⟨z, h3, h4⟩ := s1.at_ 1 _ rfl
    obtain rfl := Du.int_inv h4
    refine ⟨_, h1, ?_⟩
    refine gv_T_paces (i := i) (d := d) T (gv_var rfl) σ H1 _ s1 fun u H2 e2 hu => ?_
    obtain rfl : u = .ref d := hu
    refine ⟨_, h3, d, _, rfl, DPut.k (k := .inl b) (e2 _ _ (m1 _ _ hd)) (by rw [sizeLine_eq]; omega), ?_⟩
    exact q _ (fun c o hc he => by rw [upd_ne hc]; exact e2 _ _ (m1 _ _ he)) upd_same
/-! ### walked -/
structure Tw1 where
  i : Wj
  d : Addr
  kvs : Kv
  n : Nat
def Tw1.W (x : Tw1) : Wk := Tp x.i.t x.i.o (chOf x.i.t x.i.c) (fun k => paceOf x.kvs k) x.n
structure Tw1Ok (x : Tw1) : Prop where
  t : TOk x.i.t
  o : OOk x.i.t x.i.o
  c : x.i.c.ok x.i.t.N
  v : Vch x.i.t (chOf x.i.t x.i.c)
  n : x.n ≤ 800
  k : KvOk x.kvs
abbrev CWx (i : Wj) (x : Wx) : Prop := x.t = i.t ∧ x.o = i.o ∧ x.c = i.c
abbrev tTw (P : Program) (w : World) (K : PySem.W.Frag) (mg : Str → Option Value) (base : Heap) (x : Tw1) : List Ty := [tTp P w K mg base x.i x.d x.kvs, tD K (.int (x.n : Nat))]
theorem sc_Tape_walked : FnScope ["self", "beat", "begin", "again", "most", "wait", "walk", "at"] ["self", "beat"] (defScope s_Tape_walked) := ⟨rfl, rfl, rfl, by decide +kernel, rfl, by decide +kernel, by decide +kernel⟩
def spWalked (P : Program) (w : World) (K : PySem.W.Frag) (mg : Str → Option Value) (base : Heap) : Sp := spP Tw1Ok (tTw P w K mg base) (fun x => tE (CWx x.i) fun y => tWk P w K mg base y x.W)
theorem c_Tape_walked (T : Txt K mg) : CalM P w K mg base (cTape K) "walked" 6 (spWalked P w K mg base) := by
  obtain ⟨fd, F⟩ := T.d_Tape_walked
  refine ⟨_, fd, ["self", "beat"], ?_, T.m_Tape_walked, F.bindsN (fun _ _ _ _ _ _ us hl => match us, hl with | [_, _], _ => rfl)⟩
  refine F.ok sc_Tape_walked (fun vs H Q E ⟨i, _, h, _⟩ => h.len) fun cdv A outer s H vs Q E hr ⟨y, c, h, q⟩ => ?_
  refine ⟨_, PSs.nox (pss_cons (ps_asg (pe_fld (pv 0) rfl) (pg_tup rfl (pgs_cons (pg_name (i := 2) sc_Tape_walked.nd rfl (Or.inl rfl)) (pgs_cons (pg_name (i := 3) sc_Tape_walked.nd rfl (Or.inl rfl)) (pgs_cons (pg_name (i := 4) sc_Tape_walked.nd rfl (Or.inl rfl)) (pgs_cons (pg_name (i := 5) sc_Tape_walked.nd rfl (Or.inl rfl)) pgs_nil)))))) (pss_cons (ps_set (i := 6) sc_Tape_walked.nd rfl (Or.inl rfl) (pe_calCK (ck_Walk_init4 T) hr (by decide) rfl (pa_cons (pe_fld (pv 0) rfl) (pa_cons (pe_fld (pv 0) rfl) pa_nil)) (pk_cons (pv 2) (pk_cons (pv 3) (pk_cons (pv 4) (pk_cons (pv 5) pk_nil)))))) (pss_cons (ps_expr (pe_calM0 (c_Walk_choose_here T) T.c_Walk hr (by decide) (pv 6))) (pss_cons (ps_for PassesOwn.never rfl (pi_range1 (by rfl) T.f_range (pa_cons (pv 1) pa_nil)) (pg_name (i := 7) sc_Tape_walked.nd rfl (Or.inl rfl)) (pss_one (ps_if (pt_not (pt_val (pe_calM0 (c_Walk_is_at_end T) T.c_Walk hr (by decide) (pv 6)))) (pss_cons (ps_expr (pe_calM (c_Walk_step_on T) T.c_Walk hr (by decide) (pv 6) (pa_cons (pe_dget2 (hu_of hr) (pe_fld (pv 0) rfl) (pv 7) pe_int ⟨rfl, rfl, rfl, rfl⟩) pa_nil))) (pss_one (ps_expr (pe_calM0 (c_Walk_choose_here T) T.c_Walk hr (by decide) (pv 6))))) pss_nil))) (pss_one (ps_ret (pv 6))))))), ?_⟩
  obtain ⟨i, d, kvs, n⟩ := y
  obtain ⟨(ct : TOk i.t), (co : OOk i.t i.o), (cc : i.c.ok i.t.N), (cv : Vch i.t (chOf i.t i.c)), (cn : n ≤ 800), (ck : KvOk kvs)⟩ := c
  have hd : H d = some (.dK kvs) := by
    cases h with
    | cons h t => exact h.2
  have s0 : Sat (ent ["self", "beat", "begin", "again", "most", "wait", "walk", "at"] [tTape P w K mg base i d, tD K (.int (n : Nat))]) (L2.start ["self", "beat", "begin", "again", "most", "wait", "walk", "at"] vs) H := by
    cases h with
    | cons h t => exact (Pv.cons h.1 t).ent
  refine go_run (M := Hm.of H) ?_ (Same.refl H) s0
  try dsimp only [Cx.nox, cxOf, ent, List.map, List.length_cons, List.length_nil, List.replicate_succ, List.replicate_zero, List.cons_append, List.nil_append, List.set]
  refine q_asg (gv_T_options T (gv_var rfl)) (gt_tup (ds := [.int i.o.beg, .int i.o.aga, .int i.o.mst, .int i.o.wai]) (gts_cons gt_name (gts_cons gt_name (gts_cons gt_name (gts_cons gt_name gts_nil)))) rfl) ?_
  try dsimp only [List.set]
  refine q_makeM (κ := Wj) (Cd := fun i : Wj => TOk i.t ∧ OOk i.t i.o) (Pk := wnTy P w K mg base) (nl := 6) (mo := fun i ls => mWk P w K mg base (i.x 0 0 ls) wk0) i (ga_cons (gv_T_talk T (gv_var rfl)) (ga_cons (gv_T_chooser T (gv_var rfl)) ga_nil)) (ga_cons (gv_var rfl) (ga_cons (gv_var rfl) (ga_cons (gv_var rfl) (ga_cons (gv_var rfl) ga_nil)))) rfl rfl (fun x vs zs => ⟨vs ++ (zs ++ [.non]), rfl, fun H h1 h2 => h1.app (h2.app (.cons (show (tD K .none).p V.non H from Du.non) .nil))⟩) ⟨ct, co⟩ fun H0 a dx ls hl hM hn => ?_
  try dsimp only [List.set]
  match ls, hl, hn with
  | [l1, l2, l3, l4, l5, l6], _, hn =>
  have hd0 : H0 d = some (.dK kvs) := hM _ _ hd
  have hdS : d ∉ [a, l1, l2, l3, l4, l5, l6] := fun z => by
    have := hn d z
    rw [hd0] at this
    cases this
  have hS : ∀ b ∈ aWk ⟨i.t, i.o, i.c, a, dx, l1, l2, l3, l4, l5, l6⟩, b ∈ [a, l1, l2, l3, l4, l5, l6] := fun b hb => hb
  have pos : ∀ k : Nat, 0 ≤ paceOf kvs k := fun k => pace_ok ck k
  have okW := Tp_ok (spd := fun k => paceOf kvs k) ct co cv pos
  have ox : ∀ {R R2 : Option Ty}, CtxFx [R2] → OFx 6 [some (tTape P w K mg base i d), some (tD K (.int (n : Nat))), some (tD K (.int i.o.beg)), some (tD K (.int i.o.aga)), some (tD K (.int i.o.mst)), some (tD K (.int i.o.wai)), R, R2] := fun h => .yes tTape_fx (.yes tD_fx (.yes tD_fx (.yes tD_fx (.yes tD_fx (.yes tD_fx (.here h))))))
  refine q_choose (x := ⟨i.t, i.o, i.c, a, dx, l1, l2, l3, l4, l5, l6⟩) (W := wk0) rfl ⟨ct, co, cc, wk0_ok ct co, by show (0 : Nat) ≤ 900; omega⟩ (ox (.no .nil)) hS ?_
  try dsimp only [List.set]
  refine q_forR (n := n) (ga_cons (gv_var rfl) ga_nil) (by omega) (fun k => [some (tTape P w K mg base i d), some (tD K (.int (n : Nat))), some (tD K (.int i.o.beg)), some (tD K (.int i.o.aga)), some (tD K (.int i.o.mst)), some (tD K (.int i.o.wai)), some (tWk P w K mg base ⟨i.t, i.o, i.c, a, dx, l1, l2, l3, l4, l5, l6⟩ (Tp i.t i.o (chOf i.t i.c) (fun k => paceOf kvs k) k)), none]) (fun σ H s => s.wk (.keep (.keep (.keep (.keep (.keep (.keep (.keep (.any .nil))))))))) (fun k hk nx hnx => ⟨_, gt_name, ?_⟩) ?_
  · try dsimp only [List.set]
    obtain ⟨wk, wb⟩ := okW k
    refine go_if (gb_not (gb_val (r_at_end (x := ⟨i.t, i.o, i.c, a, dx, l1, l2, l3, l4, l5, l6⟩) (W := Tp i.t i.o (chOf i.t i.c) (fun k => paceOf kvs k) k) rfl ct))) (fun h => ?_) (fun h => ?_)
    · have hno : ¬ over i.t (Tp i.t i.o (chOf i.t i.c) (fun k => paceOf kvs k) k).s := by simpa using h
      have e1 : Tp i.t i.o (chOf i.t i.c) (fun k => paceOf kvs k) (k + 1) = choose i.t i.o (chOf i.t i.c) (step i.t i.o (Tp i.t i.o (chOf i.t i.c) (fun k => paceOf kvs k) k) (paceOf kvs k)) := if_neg hno
      rw [e1] at hnx
      have wk2 := step_ok ct co wk hno (pos k)
      refine qm_callM (ι := Ws) (ad := fun i => (i.x.a, i.x.dx)) (m1 := fun i => mWk P w K mg base i.x i.W) (m2 := fun i => mWk P w K mg base i.x (step i.x.t i.x.o i.W i.v)) ⟨⟨i.t, i.o, i.c, a, dx, l1, l2, l3, l4, l5, l6⟩, Tp i.t i.o (chOf i.t i.c) (fun k => paceOf kvs k) k, paceOf kvs k⟩ rfl (by rfl) (gam_one (P := tD K (.int (paceOf kvs k))) fun σ H1 Q1 m1 s1 q1 => ?_) rfl ⟨⟨ct, co, cc, wk, Nat.le_trans wb (by omega)⟩, hno, pos k⟩ (ox (.yes tD_fx .nil)) hS (fun H H' h kp => im_W h kp) ?_
      · refine gv_T_paces (i := i) (d := d) T (gv_var rfl) σ H1 _ s1 fun u H2 e2 hu => ?_
        obtain rfl : u = .ref d := hu
        have hd2 : H2 d = some (.dK kvs) := e2 _ _ (m1 d _ hdS hd0)
        obtain ⟨z, h3, h4⟩ := s1.at_ 7 _ rfl
        obtain rfl := Du.int_inv h4
        refine ⟨d, rfl, .inl ⟨kvs, .inl hd2⟩, _, h3, _, DGet.k (k := .inl ((k : Nat) : Int)) hd2, ?_⟩
        rw [pace_val ck]
        exact q1 _ H2 e2 (.int _)
      · try dsimp only [List.set]
        refine m_choose (x := ⟨i.t, i.o, i.c, a, dx, l1, l2, l3, l4, l5, l6⟩) (W := step i.t i.o (Tp i.t i.o (chOf i.t i.c) (fun k => paceOf kvs k) k) (paceOf kvs k)) rfl ⟨ct, co, cc, wk2, Nat.le_trans (Nat.succ_le_succ wb) (by omega)⟩ (ox (.yes tD_fx .nil)) hS ?_
        exact hnx.wk (.keep (.keep (.keep (.keep (.keep (.keep (.keep (.any .nil))))))))
    · have hov : over i.t (Tp i.t i.o (chOf i.t i.c) (fun k => paceOf kvs k) k).s := by simpa using h
      have e1 : Tp i.t i.o (chOf i.t i.c) (fun k => paceOf kvs k) (k + 1) = Tp i.t i.o (chOf i.t i.c) (fun k => paceOf kvs k) k := if_pos hov
      rw [e1] at hnx
      exact go_next (hnx.wk (.keep (.keep (.keep (.keep (.keep (.keep (.keep (.any .nil)))))))))
  · refine go_ret (gv_var rfl) (R := tE (CWx i) fun y => tWk P w K mg base y (Tp i.t i.o (chOf i.t i.c) (fun k => paceOf kvs k) n)) (fun v H' m r => q v H' (hM.trans (fr_same m hn)) r) fun v H h => ⟨⟨i.t, i.o, i.c, a, dx, l1, l2, l3, l4, l5, l6⟩, ⟨rfl, rfl, rfl⟩, h⟩
theorem r_walked {x : Tw1} (a : Gv Γ ta (tTp P w K mg base x.i x.d x.kvs)) (b : Gv Γ tb (tD K (.int (x.n : Nat)))) (c : Tw1Ok x) : Gv Γ (tMeth (cTape K) "walked" (spWalked P w K mg base) [] E0 ta (tCons tb tNil)) (tE (CWx x.i) fun y => tWk P w K mg base y x.W) := fun σ H Q s q =>
  a σ H _ s fun v H1 e1 hv => by
    obtain ⟨p, dx, vs, h1, h2, h3⟩ := id hv.1
    exact ⟨p, dx, vs, h1, h2, h3.none (by rfl), (ga_cons b ga_nil) σ H1 _ (s.up e1) fun ws H2 e2 h4 => ⟨x, c, by rw [List.append_nil]; exact .cons ((tTp P w K mg base x.i x.d x.kvs).up e2 hv) h4, fun v H' e3 hv => q v H' ((e1.trans e2).trans e3) hv⟩⟩
theorem sc_Tape_stand_behind : FnScope ["self", "beat"] ["self", "beat"] (defScope s_Tape_stand_behind) := ⟨rfl, rfl, rfl, by decide +kernel, rfl, by decide +kernel, by decide +kernel⟩
def spBehind (P : Program) (w : World) (K : PySem.W.Frag) (mg : Str → Option Value) (base : Heap) : Sp := spP Tw1Ok (tTw P w K mg base) (fun x => tD K (dSd x.W.s))
theorem c_Tape_stand_behind (T : Txt K mg) : CalM P w K mg base (cTape K) "stand_behind" 7 (spBehind P w K mg base) := by
  obtain ⟨fd, F⟩ := T.d_Tape_stand_behind
  refine ⟨_, fd, ["self", "beat"], ?_, T.m_Tape_stand_behind, F.bindsN (fun _ _ _ _ _ _ us hl => match us, hl with | [_, _], _ => rfl)⟩
  refine pure_ok F sc_Tape_stand_behind (fun _ => rfl) fun cdv A outer s H E i hr c => ⟨_, (pss_one (ps_ret (pe_fld (pe_calM (c_Tape_walked T) T.c_Tape hr (by decide) (pv 0) (pa_cons (pv 1) pa_nil)) rfl))), fun M D r nn => ?_⟩
  try dsimp only [Cx.nox, cxOf, ent, List.map, List.length_cons, List.length_nil, List.replicate_succ, List.replicate_zero, List.cons_append, List.nil_append, List.set]
  exact go_ret (gv_fldE (r_walked (x := i) (gv_var rfl) (gv_var rfl) c) T.c_Walk T.n_Walk_stand_here fun x _ => rfl) r fun _ _ h => h
theorem sc_Tape_chosen_till : FnScope ["self", "beat"] ["self", "beat"] (defScope s_Tape_chosen_till) := ⟨rfl, rfl, rfl, by decide +kernel, rfl, by decide +kernel, by decide +kernel⟩
def spTill (P : Program) (w : World) (K : PySem.W.Frag) (mg : Str → Option Value) (base : Heap) : Sp := spP Tw1Ok (tTw P w K mg base) (fun x => tD K (dI x.W.rates))
theorem c_Tape_chosen_till (T : Txt K mg) : CalM P w K mg base (cTape K) "chosen_till" 7 (spTill P w K mg base) := by
  obtain ⟨fd, F⟩ := T.d_Tape_chosen_till
  refine ⟨_, fd, ["self", "beat"], ?_, T.m_Tape_chosen_till, F.bindsN (fun _ _ _ _ _ _ us hl => match us, hl with | [_, _], _ => rfl)⟩
  refine pure_ok F sc_Tape_chosen_till (fun _ => rfl) fun cdv A outer s H E i hr c => ⟨_, (pss_one (ps_ret (pe_callTy (T := "tuple") (r := rTupOf K) call_tuple_of (by rfl) T.f_tuple (by decide +kernel) (pa_cons (pe_fld (pe_calM (c_Tape_walked T) T.c_Tape hr (by decide) (pv 0) (pa_cons (pv 1) pa_nil)) rfl) pa_nil)))), fun M D r nn => ?_⟩
  try dsimp only [Cx.nox, cxOf, ent, List.map, List.length_cons, List.length_nil, List.replicate_succ, List.replicate_zero, List.cons_append, List.nil_append, List.set]
  exact go_ret (gv_cb1 (gv_fldLE (i := 0) (ds := i.W.rates.map .int) (r_walked (x := i) (gv_var rfl) (gv_var rfl) c) T.c_Walk T.n_Walk_rates fun x _ => ⟨x.l1, rfl, rfl⟩) gc_tupL) r fun _ _ h => h
end
end RP
set_option maxHeartbeats 4000000
namespace RP
open PySem PySem.Spec PyProof.Rows L2
/-! ### watches as keys -/
def dWay : Option (Wt × Int) → PyData
  | none => .none
  | some q => .tuple [dWt q.1, .int q.2]
theorem kOfs_ints : ∀ ns : List Int, kOfs (ns.map .int) = ns.map .num
  | [] => rfl
  | n :: ns => by
    rw [List.map_cons, kOfs, kOf, kOfs_ints ns]
    rfl
def kLa : Option (Int × Int) → NestedKey
  | none => .tup []
  | some q => .tup [.num q.1, .num q.2]
theorem kOf_la (l : Option (Int × Int)) : kOf (dLa l) = kLa l := by
  cases l with
  | none => simp [dLa, kOf, kOfs, kLa]
  | some q => simp [dLa, kOf, kOfs, kLa]
theorem kOf_wt (x : Wt) : kOf (dWt x) = .tup [.tup [.num x.s.n, .num x.s.c, .num x.s.g, .num x.s.k, .num x.s.p, .num x.s.w], .num x.r, kLa x.la, .num x.we, .tup (x.pa.map .num)] := by
  show kOf (.tuple [dSd x.s, .int x.r, dLa x.la, .int x.we, dI x.pa]) = _
  simp only [kOf, kOfs, kOf_la, dSd, kOfs_ints]
theorem num_inj : ∀ {a b : List Int}, a.map NestedKey.num = b.map .num → a = b
  | [], [], _ => rfl
  | [], _ :: _, e => by simp at e
  | _ :: _, [], e => by simp at e
  | x :: xs, y :: ys, e => by
    rw [List.map_cons, List.map_cons] at e
    injection e with e1 e2
    injection e1 with e1
    rw [e1, num_inj e2]
theorem kLa_inj {a b : Option (Int × Int)} (h : kLa a = kLa b) : a = b := by
  cases a with
  | none =>
    cases b with
    | none => rfl
    | some q => simp [kLa] at h
  | some p =>
    cases b with
    | none => simp [kLa] at h
    | some q =>
      simp [kLa] at h
      rw [Prod.ext h.1 h.2]
theorem kW_inj {x y : Wt} (h : kOf (dWt x) = kOf (dWt y)) : x = y := by
  rw [kOf_wt, kOf_wt] at h
  obtain ⟨⟨n, c, g, k, p, w⟩, r, la, we, pa⟩ := x
  obtain ⟨⟨n', c', g', k', p', w'⟩, r', la', we', pa'⟩ := y
  injection h with h
  injection h with h1 h
  injection h with h2 h
  injection h with h3 h
  injection h with h4 h
  injection h with h5 _
  injection h1 with h1
  injection h1 with a1 h1
  injection h1 with a2 h1
  injection h1 with a3 h1
  injection h1 with a4 h1
  injection h1 with a5 h1
  injection h1 with a6 _
  injection a1 with a1
  injection a2 with a2
  injection a3 with a3
  injection a4 with a4
  injection a5 with a5
  injection a6 with a6
  injection h2 with h2
  injection h4 with h4
  injection h5 with h5
  have a1 : n = n' := Int.ofNat.inj a1
  have h3 := kLa_inj h3
  have h5 := num_inj h5
  subst a1 a2 a3 a4 a5 a6 h2 h3 h4 h5
  rfl
theorem depth_nums : ∀ ns : List Int, NestedKey.depthAll (ns.map .num) = 0
  | [] => rfl
  | n :: ns => by
    rw [List.map_cons, NestedKey.depthAll, NestedKey.depth, depth_nums ns]
    rfl
theorem kW_depth (x : Wt) : (kOf (dWt x)).depth ≤ 8 := by
  rw [kOf_wt]
  have h : (kLa x.la).depth ≤ 1 := by
    cases x.la with
    | none => simp [kLa, NestedKey.depth, NestedKey.depthAll]
    | some q => simp [kLa, NestedKey.depth, NestedKey.depthAll]
  simp only [NestedKey.depth, NestedKey.depthAll, depth_nums]
  omega
/-! ### the dict of ways -/
section
variable {P : Program} {w : World} {K : PySem.W.Frag} {mg : Str → Option Value} {base : Heap} {H H' : Hp} {E : NE} {ent : Ent} {l d : Addr}
inductive EM (K : PySem.W.Frag) (H : Hp) : NE → Ent → Prop
  | nil : EM K H [] []
  | cons {ka : Addr} {v : V} {x : Wt} {q : Option (Wt × Int)} {E : NE} {ent : Ent} (hk : Du K H (.ref ka) (dWt x)) (hv : Du K H v (dWay q)) (t : EM K H E ent) : EM K H ((kOf (dWt x), ka, v) :: E) ((x, q) :: ent)
theorem EM.im (e : Im H H') : ∀ {E : NE} {ent : Ent}, EM K H E ent → EM K H' E ent
  | _, _, .nil => .nil
  | _, _, .cons h v t => .cons (h.im e) (v.im e) (EM.im e t)
theorem EM.nk : ∀ {E : NE} {ent : Ent}, EM K H E ent → NKeys K H E
  | _, _, .nil => nkeys_nil
  | _, _, .cons (x := x) h _ t => fun p hp => by
    rcases List.mem_cons.mp hp with e | hp
    · subst e
      exact ⟨_, h, rfl, kW_depth x⟩
    · exact EM.nk t p hp
theorem EM.len : ∀ {E : NE} {ent : Ent}, EM K H E ent → E.length = ent.length
  | _, _, .nil => rfl
  | _, _, .cons _ _ t => congrArg Nat.succ t.len
theorem EM.snoc {ka : Addr} {v : V} {x : Wt} {q : Option (Wt × Int)} (hk : Du K H (.ref ka) (dWt x)) (hv : Du K H v (dWay q)) : ∀ {E : NE} {ent : Ent}, EM K H E ent → EM K H (E ++ [(kOf (dWt x), ka, v)]) (ent ++ [(x, q)])
  | _, _, .nil => .cons hk hv .nil
  | _, _, .cons h v t => .cons h v (EM.snoc hk hv t)
theorem EM.mem {y : Wt} : ∀ {E : NE} {ent : Ent}, EM K H E ent → (kOf (dWt y) ∈ E.map (·.1) ↔ y ∈ keys ent)
  | _, _, .nil => by simp [keys]
  | _, _, .cons (x := x) (q := q) (ent := ent) h _ t => by
    have ih := EM.mem (y := y) t
    show _ ∈ _ :: _ ↔ y ∈ x :: keys ent
    rw [List.mem_cons, List.mem_cons, ih]
    exact ⟨fun z => z.elim (fun z => .inl (kW_inj z)) .inr, fun z => z.elim (fun z => .inl (by rw [z])) .inr⟩
theorem EM.look {y : Wt} (h : EM K H E ent) : (lookN E (kOf (dWt y))).isSome = decide (y ∈ keys ent) := by
  rw [lookN_mem]
  exact decide_eq_decide.mpr h.mem
theorem EM.way {y : Wt} : ∀ {E : NE} {ent : Ent}, EM K H E ent → y ∈ keys ent → ∃ v, lookN E (kOf (dWt y)) = some v ∧ Du K H v (dWay (wayOf ent y))
  | _, _, .nil, h => by cases h
  | _, _, .cons (x := x) (q := q) (v := v) (ka := ka) (E := E) (ent := ent) hk hv t, h => by
    by_cases e : x = y
    · subst e
      refine ⟨v, by simp [lookN], ?_⟩
      have : wayOf ((x, q) :: ent) x = q := by simp [wayOf]
      rw [this]
      exact hv
    · have h2 : y ∈ keys ent := by
        rcases List.mem_cons.mp (show y ∈ x :: keys ent from h) with z | z
        · exact absurd z.symm e
        · exact z
      obtain ⟨u, h3, h4⟩ := EM.way t h2
      have ne : ¬ kOf (dWt x) = kOf (dWt y) := fun z => e (kW_inj z)
      refine ⟨u, ?_, ?_⟩
      · unfold lookN at h3 ⊢
        rw [List.find?_cons, decide_eq_false ne]
        exact h3
      · have : wayOf ((x, q) :: ent) y = wayOf ent y := by
          unfold wayOf
          rw [List.find?_cons, decide_eq_false e]
        rw [this]
        exact h4
/-- the search's order and ways -/
def SS (P : Program) (w : World) (K : PySem.W.Frag) (l d : Addr) (ent : Ent) (H : Hp) : Prop := (∃ vs, H l = some (.lst vs) ∧ Dus K H vs ((keys ent).map dWt)) ∧ ∃ E, H d = some (NdO P w d E) ∧ EM K H E ent
theorem SS.up (e : Same H H') (h : SS P w K l d ent H) : SS P w K l d ent H' := let ⟨⟨vs, h1, h2⟩, E, h3, h4⟩ := h; ⟨⟨vs, e _ _ h1, h2.im (.of e)⟩, E, e _ _ h3, h4.im (.of e)⟩
theorem SS.ne (h : SS P w K l d ent H) : l ≠ d := fun e => by
  obtain ⟨⟨vs, h1, _⟩, E, h3, _⟩ := h
  rw [e, h3] at h1
  cases h1
/-- all but the order and the ways stands -/
def SameS (l d : Addr) (H H' : Hp) : Prop := ∀ b o, b ≠ l → b ≠ d → H b = some o → H' b = some o
theorem SameS.im (e : SameS l d H H') (h : SS P w K l d ent H) : Im H H' := fun b o hb f => by
  obtain ⟨⟨vs, h1, _⟩, E, h3, _⟩ := h
  refine e b o (fun z => ?_) (fun z => ?_) hb
  · rw [z, h1] at hb
    cases hb
    exact f
  · rw [z, h3] at hb
    cases hb
    exact absurd f nd_free
def Hm.se (P : Program) (w : World) (K : PySem.W.Frag) (H0 : Hp) (l d : Addr) (ent : Ent) : Hm := ⟨fun H => SameS l d H0 H ∧ SS P w K l d ent H, fun e h => ⟨fun b o n m q => e _ _ (h.1 b o n m q), h.2.up e⟩⟩
abbrev fSe (P : Program) (w : World) (K : PySem.W.Frag) (mg : Str → Option Value) (base : Heap) (g : Gu) (l d : Addr) : List (Str × Ty) := [("guard_asked", tGuard P w K mg base g), ("most_watches", tD K (.int 150)), ("order", tV (.ref l)), ("ways", tV (.ref d))]
abbrev tSe (P : Program) (w : World) (K : PySem.W.Frag) (mg : Str → Option Value) (base : Heap) (g : Gu) (l d : Addr) : Ty := tO (cSearch K) (fSe P w K mg base g l d)
theorem tSe_fx {g : Gu} : (tSe P w K mg base g l d).Fx := tO_fx (by show (["guard_asked", "most_watches", "order", "ways"] : List Str) ∈ fixed; decide +kernel) (FldFx.mem (.cons tGuard_fx (.cons tD_fx (.cons tV_fx (.cons tV_fx .nil)))))
end
section
variable {P : Program} {w : World} {K : PySem.W.Frag} {mg : Str → Option Value} {base : Heap} {Γ : Ctx} {ta tb tc td te : TE} {g : Gu} {l d : Addr}
theorem gv_S_guard (T : Txt K mg) (h : Gv Γ te (tSe P w K mg base g l d)) : Gv Γ (tFld K te "guard_asked") (tGuard P w K mg base g) := gv_fld h T.c_Search T.n_Search_guard_asked (by rfl)
theorem gv_S_most (T : Txt K mg) (h : Gv Γ te (tSe P w K mg base g l d)) : Gv Γ (tFld K te "most_watches") (tD K (.int 150)) := gv_fld h T.c_Search T.n_Search_most_watches (by rfl)
theorem gv_S_order (T : Txt K mg) (h : Gv Γ te (tSe P w K mg base g l d)) : Gv Γ (tFld K te "order") (tV (.ref l)) := gv_fld h T.c_Search T.n_Search_order (by rfl)
theorem gv_S_ways (T : Txt K mg) (h : Gv Γ te (tSe P w K mg base g l d)) : Gv Γ (tFld K te "ways") (tV (.ref d)) := gv_fld h T.c_Search T.n_Search_ways (by rfl)
/-- watch in the ways -/
theorem gvm_in {H0 : Hp} {ent : Ent} {x : Wt} (hx : Gv Γ ta (tD K (dWt x))) (hd : Gv Γ te (tV (.ref d))) : GvM (Hm.se P w K H0 l d ent) Γ (tOp (rInN P w K false) ta te) (tD K (.bool (decide (x ∈ keys ent)))) := fun σ H Q m s q =>
  hx σ H _ s fun v H1 e1 hv => hd σ H1 _ (s.up e1) fun u H2 e2 hu => by
    obtain rfl : u = .ref d := hu
    have hv2 := hv.im (.of e2)
    obtain ⟨a, xs, ev, _, _⟩ := hv2.tup_inv
    subst ev
    obtain ⟨_, E, h1, h2⟩ := ((Hm.se P w K H0 l d ent).up (e1.trans e2) m).2
    refine ⟨d, a, E, _, rfl, rfl, h1, h2.nk, hv2, kW_depth x, ?_⟩
    have e : (false.xor (lookN E (kOf (dWt x))).isSome) = decide (x ∈ keys ent) := by rw [Bool.false_xor, h2.look]
    show Q (.bl (false.xor (lookN E (kOf (dWt x))).isSome)) H2
    rw [e]
    exact q _ H2 (e1.trans e2) (.bl _)
theorem GvM.eqB {M : Hm} {b c : Bool} (h : GvM M Γ te (tD K (.bool b))) (e : b = c) : GvM M Γ te (tD K (.bool c)) := e ▸ h
/-! ### the exception -/
abbrev cToo (K : PySem.W.Frag) : Addr := He.ga K "TooMany"
theorem sc_TooMany_init : FnScope ["self", "limit"] ["self", "limit"] (defScope s_TooMany_init) := ⟨rfl, rfl, rfl, by decide +kernel, rfl, by decide +kernel, by decide +kernel⟩
def spTooI (K : PySem.W.Frag) : Sp := fun vs H Q _ => ∃ (a : Addr) (lim : Int), vs = [.ref a, .int lim] ∧ H a = some (exo a (cToo K) none) ∧ ∀ dx, H dx = none → dx ≠ a → Q .non (upd (upd H dx (exd dx [("limit", .int lim)])) a (exo a (cToo K) (some dx)))
theorem f_TooMany_init (T : Txt K mg) : ∃ fd, FnOk P w K mg base CX0 1 (He.ma K (cToo K) "__init__") fd ["self", "limit"] (spTooI K) ∧ Binds K fd ["self", "limit"] [] := by
  obtain ⟨fd, F⟩ := T.d_TooMany_init
  refine ⟨fd, ?_, F.bindsN (fun _ _ _ _ _ _ us hl => match us, hl with | [_, _], _ => rfl)⟩
  refine F.ok sc_TooMany_init (fun vs H Q E ⟨a, lim, e, _⟩ => by rw [e]; rfl) fun cdv A outer s H vs Q E hr ⟨a, lim, e, ha, q⟩ => ?_
  refine ⟨_, PSs.nox (pss_cons (ps_expr (pe_veinit rfl T.f_ValueError T.ex.too.vei (pa_cons (pv 0) (pa_cons pe_str pa_nil)))) (pss_one (ps_ost (pv 0) (pv 1)))), ?_⟩
  subst e
  refine ⟨_, rfl, a, cToo K, [_], rfl, by show 1 ≤ 1000; decide, T.ex.too.c, ha, ?_⟩
  exact ⟨_, rfl, _, rfl, a, cToo K, rfl, T.ex.too.c, T.ex.too.lim, .inl ⟨ha, fun dx h1 h2 => q dx h1 h2⟩⟩
/-! ### come -/
theorem sc_Search_come : FnScope ["self", "watch", "ahead", "speed"] ["self", "watch", "ahead", "speed"] (defScope s_Search_come) := ⟨rfl, rfl, rfl, by decide +kernel, rfl, by decide +kernel, by decide +kernel⟩
structure Cme where
  g : Gu
  l : Addr
  d : Addr
  ent : Ent
  b : Option Wt
  a : Wt
  v : Int
def spCome (P : Program) (w : World) (K : PySem.W.Frag) (mg : Str → Option Value) (base : Heap) : Sp := fun vs H Q E => ∃ i : Cme, i.ent.length ≤ 150 ∧ Pv H [tSe P w K mg base i.g i.l i.d, tD K (dOW i.b), tD K (dWt i.a), tD K (.int i.v)] vs ∧ SS P w K i.l i.d i.ent H ∧
  match come i.ent i.b i.a i.v with
  | some ent' => ∀ H', SameS i.l i.d H H' → SS P w K i.l i.d ent' H' → Q .non H'
  | none => ∀ dx H', SameS i.l i.d H H' → E (.ref (cToo K)) (some dx) H'
theorem c_Search_come (T : Txt K mg) : CalMX P w K mg base (cSearch K) "come" 3 (spCome P w K mg base) := by
  obtain ⟨fd, F⟩ := T.d_Search_come
  obtain ⟨fd1, F1, b1⟩ := f_TooMany_init (P := P) (w := w) (base := base) T
  refine ⟨_, fd, ["self", "watch", "ahead", "speed"], ?_, T.m_Search_come, F.bindsN (fun _ _ _ _ _ _ us hl => match us, hl with | [_, _, _, _], _ => rfl)⟩
  refine F.ok sc_Search_come (fun vs H Q E ⟨i, _, h, _⟩ => h.len) fun cdv A outer s H vs Q E hr ⟨i, hl, h, hs, q⟩ => ?_
  refine ⟨_, (pss_cons (ps_if (PW.pt (pw_or (pt_cmpR op_isN (pv 1) pe_non (nomark _)) (pw_or1 (pt_cmpR (r := rInN P w K false) (op_in_nd hr.units) (pv 1) (pe_fld (pv 0) rfl) (by with_unfolding_all rfl))))) (pss_one ps_retN) pss_nil) (pss_cons (ps_if (pt_cmpR op_eq (pe_callB (id := "len") (r := rLn K) call_len_seq (by rfl) T.f_len (by decide +kernel) (pa_cons (pe_fld (pv 0) rfl) pa_nil)) (pe_fld (pv 0) rfl) (nomark _)) (pss_one (ps_raise rfl (takes_of rfl rfl rfl rfl) (pmk_oex T.ex.too.c T.ex.too.ini T.ex.too.ty F1 hr b1 .nil pass0 rfl T.g_TooMany (pa_cons (pe_fld (pv 0) rfl) pa_nil)))) pss_nil) (pss_cons (ps_asg (pe_tup (pa_cons (pv 2) (pa_cons (pv 3) pa_nil))) (pg_sub (pe_fld (pv 0) rfl) (pv 1) (set_nd hr.units))) (pss_one (ps_expr (pe_bm PySem.F.plainAttrs_list PySem.F.slot_list_append PySem.F.type_list_append mt_append (pe_fld (pv 0) rfl) (pa_cons (pv 1) pa_nil))))))), ?_⟩
  obtain ⟨g, l, d, ent, b, a, v⟩ := i
  have hl : ent.length ≤ 150 := hl
  have hs : SS P w K l d ent H := hs
  have s0 : Sat (RP.ent ["self", "watch", "ahead", "speed"] [tSe P w K mg base g l d, tD K (dOW b), tD K (dWt a), tD K (.int v)]) (L2.start ["self", "watch", "ahead", "speed"] vs) H := h.ent
  refine go_run (M := Hm.se P w K H l d ent) ?_ ⟨fun b o _ _ e => e, hs⟩ s0
  try dsimp only [Cx.nox, cxOf, ent, List.map, List.length_cons, List.length_nil, List.replicate_succ, List.replicate_zero, List.cons_append, List.nil_append, List.set]
  have fin : ∀ {ent' : Ent}, come ent b a v = some ent' → ∀ H', SameS l d H H' → SS P w K l d ent' H' → Q .non H' := fun {ent'} e => by
    dsimp only at q
    rw [e] at q
    exact q
  cases b with
  | none =>
    refine qm_when (b := true) (gbm_or (c := true) (b := true) (gbm_of (gb_val (gv_isN (d := .none) rfl (gv_var rfl) gv_non))) fun h => nomatch h) (fun _ => ?_) (fun h => nomatch h)
    intro σ H1 m s1
    exact fin rfl H1 m.1 m.2
  | some x =>
    by_cases hx : x ∈ keys ent
    · refine qm_when (b := true) (gbm_or (b := false) (c := true) (gbm_of (gb_val (gv_isN (d := dWt x) rfl (gv_var rfl) gv_non))) fun _ => gbm_val (K := K) ?_) (fun _ => ?_) (fun h => nomatch h)
      · have z := gvm_in (P := P) (w := w) (H0 := H) (l := l) (d := d) (ent := ent) (x := x) (Γ := [some (tSe P w K mg base g l d), some (tD K (dWt x)), some (tD K (dWt a)), some (tD K (.int v))]) (ta := tVar 1) (te := tFld K (tVar 0) "ways") (gv_var rfl) (gv_S_ways (g := g) (l := l) T (gv_var rfl))
        rw [decide_eq_true hx] at z
        exact z
      intro σ H1 m s1
      exact fin (by unfold come; dsimp only; rw [if_pos hx]) H1 m.1 m.2
    · refine qm_when (b := false) (gbm_or (b := false) (c := false) (gbm_of (gb_val (gv_isN (d := dWt x) rfl (gv_var rfl) gv_non))) fun _ => gbm_val (K := K) ?_) (fun h => nomatch h) (fun _ => ?_)
      · have z := gvm_in (P := P) (w := w) (H0 := H) (l := l) (d := d) (ent := ent) (x := x) (Γ := [some (tSe P w K mg base g l d), some (tD K (dWt x)), some (tD K (dWt a)), some (tD K (.int v))]) (ta := tVar 1) (te := tFld K (tVar 0) "ways") (gv_var rfl) (gv_S_ways (g := g) (l := l) T (gv_var rfl))
        rw [decide_eq_false hx] at z
        exact z
      have kl : ((keys ent).map dWt).length = ent.length := by simp [keys]
      refine qm_when (b := decide (ent.length = 150)) (gbm_val (GvM.eqB (gvm_eqI (gvm_cb1 (gvm_lst (l := l) (ds := (keys ent).map dWt) (gv_S_order T (gv_var rfl)) fun H m => m.2.1) gc_lenL) (gvm_of (gv_S_most T (gv_var rfl)))) (by
        rw [kl]
        exact decide_eq_decide.mpr ⟨fun z => by omega, fun z => by omega⟩))) (fun h => ?_) (fun h => ?_)
      · have e : ent.length = 150 := of_decide_eq_true h
        have ec : come ent (some x) a v = none := by unfold come; dsimp only; rw [if_neg hx, if_pos e]
        dsimp only at q
        rw [ec] at q
        intro σ H1 m s1
        refine gv_S_most T (gv_var rfl) σ H1 _ s1 fun u H2 e2 hu => ?_
        obtain rfl := Du.int_inv hu
        refine ⟨by show 1 ≤ 1000; decide, fun a2 na => ⟨a2, 150, rfl, upd_same, fun dx n1 n2 => ⟨rfl, dx, [("limit", .int 150)], upd_same, ?_, ?_, ?_⟩⟩⟩
        · rw [upd_ne n2]
          exact upd_same
        · rw [upd_ne n2] at n1
          exact n1
        · refine q dx _ fun b o nl nd hb => ?_
          have h1 := e2 _ _ (m.1 b o nl nd hb)
          have hdx : H2 dx = none := by rw [upd_ne n2] at n1; exact n1
          rw [upd_ne (ne_of_none h1 hdx), del_ne (ne_of_none h1 na), upd_ne (ne_of_none h1 na), upd_ne (ne_of_none h1 hdx), upd_ne (ne_of_none h1 na)]
          exact h1
      · have e : ¬ ent.length = 150 := of_decide_eq_false h
        have ec : come ent (some x) a v = some (ent ++ [(x, some (a, v))]) := by unfold come; dsimp only; rw [if_neg hx, if_neg e]
        intro σ H1 m s1
        unfold tSeq tAsg gSub rSetN
        refine gv_tupd (ts := tCons (tVar 2) (tCons (tVar 3) tNil)) (gd_cons (d := dWt a) (gv_var rfl) (gd_cons (d := .int v) (gv_var rfl) gd_nil)) rfl σ H1 _ s1 fun u H2 e2 hu => ?_
        have s2 := s1.up e2
        have m2 := (Hm.se P w K H l d ent).up e2 m
        refine gv_S_ways T (gv_var rfl) σ H2 _ s2 fun y H3 e3 hy => ?_
        obtain rfl : y = .ref d := hy
        have s3 := s2.up e3
        have m3 := (Hm.se P w K H l d ent).up e3 m2
        obtain ⟨z, hz, hzd⟩ := s3.at_ 1 _ rfl
        obtain ⟨za, zs, ez, hzt, hzs⟩ := Du.tup_inv hzd
        subst ez
        obtain ⟨⟨vs', hl1, hl2⟩, E', hd1, hd2⟩ := m3.2
        have hn : lookN E' (kOf (dWt x)) = none := by
          have := hd2.look (y := x)
          rw [decide_eq_false hx] at this
          cases q : lookN E' (kOf (dWt x)) with
          | none => rfl
          | some _ => rw [q] at this; cases this
        refine ⟨_, hz, d, za, E', _, rfl, rfl, hd1, hd2.nk, hzd, kW_depth x, hn, by rw [hd2.len]; omega, ?_⟩
        have im4 : Im H3 (upd H3 d (NdO P w d (E' ++ [(kOf (dWt x), za, u)]))) := nd_im hd1
        have nld : l ≠ d := m3.2.ne
        have s4 : Sat [some (tSe P w K mg base g l d), some (tD K (dWt x)), some (tD K (dWt a)), some (tD K (.int v))] σ (upd H3 d (NdO P w d (E' ++ [(kOf (dWt x), za, u)]))) := CtxFx.sat (.yes tSe_fx (.yes tD_fx (.yes tD_fx (.yes tD_fx .nil)))) s3 im4
        have hl4 : upd H3 d (NdO P w d (E' ++ [(kOf (dWt x), za, u)])) l = some (.lst vs') := by rw [upd_ne nld]; exact hl1
        unfold tDrop tBM
        dsimp only
        refine gv_S_order (g := g) (l := l) (d := d) (te := tVar 0) T (gv_var rfl) σ _ _ s4 fun y H5 e5 hy => ?_
        obtain rfl : y = .ref l := hy
        have hl5 := e5 _ _ hl4
        refine ⟨.inl ⟨rfl, _, SqL.of hl5⟩, .ref za, hz, l, vs', .ref za, rfl, rfl, hl5, small1000 (by rw [hl2.len, kl]; omega), ?_⟩
        have im6 : Im H5 (upd H5 l (.lst (vs' ++ [.ref za]))) := .put hl5 fun z => z
        have im36 := (im4.trans (.of e5)).trans im6
        refine fin ec _ (fun b o nl nd hb => ?_) ⟨⟨_, upd_same, ?_⟩, E' ++ [(kOf (dWt x), za, u)], ?_, ?_⟩
        · rw [upd_ne nl]
          refine e5 _ _ ?_
          rw [upd_ne nd]
          exact m3.1 b o nl nd hb
        · have ek : (keys (ent ++ [(x, some (a, v))])).map dWt = (keys ent).map dWt ++ [dWt x] := by simp [keys]
          rw [ek]
          exact Dus.append (hl2.im im36) (.cons (hzd.im im36) .nil)
        · rw [upd_ne (Ne.symm nld)]
          exact e5 _ _ upd_same
        · exact EM.snoc (hzd.im im36) ((hu.im (.of e3)).im im36) (hd2.im im36)
end
end RP
set_option maxHeartbeats 4000000
namespace RP
open PySem PySem.Spec PyProof.Rows L2
/-! ### sorted watches -/
mutual
def tupD : PyData → Bool
  | .list _ => false
  | .tuple ds => tupDs ds
  | _ => true
def tupDs : List PyData → Bool
  | [] => true
  | d :: ds => tupD d && tupDs ds
end
section
variable {K : PySem.W.Frag} {H : Hp}
mutual
theorem Dp.du : ∀ {v : V} {d : PyData}, Dp K H v d → tupD d = true → Du K H v d
  | _, _, .non, _ => .non
  | _, _, .bl b, _ => .bl b
  | _, _, .int i, _ => .int i
  | _, _, .str x, _ => .str x
  | _, _, .lst _ _, e => by
    rw [tupD] at e
    cases e
  | _, _, .tup h t, e => by
    rw [tupD] at e
    exact .tup h (Dps.du t e)
theorem Dps.du : ∀ {vs : List V} {ds : List PyData}, DpAll K H vs ds → tupDs ds = true → Dus K H vs ds
  | _, _, .nil, _ => .nil
  | _, _, .cons h t, e => by
    rw [tupDs] at e
    obtain ⟨e1, e2⟩ := Bool.and_eq_true_iff.mp e
    exact .cons (Dp.du h e1) (Dps.du t e2)
end
theorem tupDs_ints : ∀ ns : List Int, tupDs (ns.map .int) = true
  | [] => by rw [List.map_nil, tupDs]
  | n :: ns => by simp [tupDs, tupD, tupDs_ints ns]
theorem tupD_wt (x : Wt) : tupD (dWt x) = true := by
  have h : tupD (dLa x.la) = true := by
    cases x.la with
    | none => simp [dLa, tupD, tupDs]
    | some q => simp [dLa, tupD, tupDs]
  show tupD (.tuple [dSd x.s, .int x.r, dLa x.la, .int x.we, dI x.pa]) = true
  simp [tupD, tupDs, h, dSd, tupDs_ints]
theorem each_of_dus {ws : List Wt} : ∀ {vs : List V}, Dus K H vs (ws.map dWt) → PySem.W.EachIs (fun x b => Dp K H x (dWt b)) vs ws := by
  induction ws with
  | nil =>
    intro vs h
    cases h
    exact .nil
  | cons x ws ih =>
    intro vs h
    cases h with
    | cons h t => exact .cons h.dp (ih t)
theorem dus_of_each : ∀ {vs : List V} {ws : List Wt}, PySem.W.EachIs (fun x b => Dp K H x (dWt b)) vs ws → Dus K H vs (ws.map dWt)
  | _, _, .nil => .nil
  | _, _, .cons h t => .cons (Dp.du h (tupD_wt _)) (dus_of_each t)
theorem alike_ints2 : ∀ ms ns : List Int, PySem.W.alikeAll (ms.map .int) (ns.map .int) = true
  | [], _ => by rw [List.map_nil, PySem.W.alikeAll]
  | _ :: _, [] => by rw [List.map_cons, List.map_nil, PySem.W.alikeAll]
  | m :: ms, n :: ns => by rw [List.map_cons, List.map_cons, PySem.W.alikeAll, PySem.W.alike, alike_ints2 ms ns]; rfl
theorem alike_wt (x y : Wt) : PySem.W.alike (dWt x) (dWt y) = true := by
  have h : PySem.W.alike (dLa x.la) (dLa y.la) = true := by
    cases x.la with
    | none => cases y.la <;> simp [dLa, PySem.W.alike, PySem.W.alikeAll]
    | some q => cases y.la <;> simp [dLa, PySem.W.alike, PySem.W.alikeAll]
  show PySem.W.alike (.tuple [dSd x.s, .int x.r, dLa x.la, .int x.we, dI x.pa]) (.tuple [dSd y.s, .int y.r, dLa y.la, .int y.we, dI y.pa]) = true
  simp [PySem.W.alike, PySem.W.alikeAll, h, dSd, alike_ints2]
theorem depth_dI (ns : List Int) : (dI ns).depth ≤ 2 := (Lay.dI (n := 1) (ns := ns)).p
theorem lay_wt (x : Wt) : Lay 3 (dWt x) := .tup (Lays.mem (.cons (.tup (Lays.mem (.cons .int (.cons .int (.cons .int (.cons .int (.cons .int (.cons .int .nil)))))))) (.cons .int (.cons (by
  cases x.la with
  | none => exact .tup (Lays.mem .nil)
  | some q => exact .tup (Lays.mem (.cons .int (.cons .int .nil)))) (.cons .int (.cons .dI .nil))))))
def sortW (ws : List Wt) : List Wt := ws.mergeSort (PySem.W.dataLe false dWt)
theorem gc_sortW {ws : List Wt} : Gc (rSortD K) [tL K (ws.map dWt)] (tL K ((sortW ws).map dWt)) := fun vs H Q hv q => by
  obtain ⟨v, rfl, a, xs, e, h1, h2⟩ := hv.one
  refine ⟨a, xs, Wt, dWt, ws, by rw [e], h1, each_of_dus h2, fun d hd d' hd' => ?_, .inl fun d hd => ?_, fun b _ => Nat.le_trans (lay_wt b).p (by decide), fun ys p hp hy => q _ _ (same_new hp) ⟨p, ys, rfl, SqL.of upd_same, ?_⟩⟩
  · obtain ⟨x, _, rfl⟩ := List.mem_map.mp hd
    obtain ⟨y, _, rfl⟩ := List.mem_map.mp hd'
    exact alike_wt x y
  · obtain ⟨x, _, rfl⟩ := List.mem_map.mp hd
    exact ⟨_, _, rfl⟩
  · exact Dus.im (.of (same_new hp)) (dus_of_each hy)
end
section
variable {P : Program} {w : World} {K : PySem.W.Frag} {mg : Str → Option Value} {base : Heap} {Γ : Ctx} {ta tb tc td te : TE} {M : Hm} {g : Gu} {l d : Addr}
theorem sc_Search_init : FnScope ["self", "guard", "limit", "first"] ["self", "guard", "limit"] (defScope s_Search_init) := ⟨rfl, rfl, rfl, by decide +kernel, rfl, by decide +kernel, by decide +kernel⟩
def spSearchI (P : Program) (w : World) (K : PySem.W.Frag) (mg : Str → Option Value) (base : Heap) : Sp := fun vs H Q _ => ∃ (g : Gu) (a dx : Addr) (ws : List V), GOk g ∧ vs = .ref a :: ws ∧ H a = some (.ins (cSearch K) dx []) ∧ Pv H [tGuard P w K mg base g, tD K (.int 150)] ws ∧
  ∀ H' l d, H l = none → H d = none → (∀ b o, b ≠ a → H b = some o → H' b = some o) → (∃ us, H' a = some (.ins (cSearch K) dx us) ∧ Flds H' us (fSe P w K mg base g l d)) → SS P w K l d [(wt0 g.o g.ch g.kd, none)] H' → Q .non H'
theorem c_Search_init (T : Txt K mg) : CalC P w K mg base "Search" (cSearch K) 7 (spSearchI P w K mg base) := by
  obtain ⟨fd, F⟩ := T.d_Search_init
  refine ⟨_, fd, ["self", "guard", "limit"], ?_, T.g_Search, T.k_Search, F.bindsN (fun _ _ _ _ _ _ us hl => match us, hl with | [_, _, _], _ => rfl)⟩
  refine F.ok sc_Search_init (fun vs H Q E ⟨g, a, dx, ws, _, e, _, h, _⟩ => by rw [e, List.length_cons, h.len]; rfl) fun cdv A outer s H vs Q E hr ⟨g, a, dx, ws, gk, e, ha, h, q⟩ => ?_
  refine ⟨_, PSs.nox (pss_cons (ps_fld (pv 0) (pv 1) rfl) (pss_cons (ps_fld (pv 0) (pv 2) rfl) (pss_cons (ps_set (i := 3) sc_Search_init.nd rfl (Or.inl rfl) (pe_calM0 (c_Guard_first_watch T) T.c_Guard hr (by decide) (pv 1))) (pss_cons (ps_if (pt_cmpR op_lt (pv 2) pe_int (nomark _)) (pss_one ps_never) pss_nil) (pss_cons (ps_fld (pv 0) (pe_lst (pa_cons (pv 3) pa_nil)) rfl) (pss_one (ps_fld (pv 0) (pe_ndisp hr.units (pv 3) pe_non) rfl))))))), ?_⟩
  have s0 : Sat (RP.ent ["self", "guard", "limit", "first"] [tV (.ref a), tGuard P w K mg base g, tD K (.int 150)]) (L2.start ["self", "guard", "limit", "first"] vs) H := by
    rw [e]
    exact (Pv.cons (P := tV (.ref a)) rfl h).ent
  refine go_run (M := Mi a (cSearch K) dx H []) ?_ ⟨fun b o _ e => e, [], ha, .nil⟩ s0
  try dsimp only [Cx.nox, cxOf, ent, List.map, List.length_cons, List.length_nil, List.replicate_succ, List.replicate_zero, List.cons_append, List.nil_append, List.set]
  have g0 : ∀ P', some P' ∈ RP.ent ["self", "guard", "limit", "first"] [tV (.ref a), tGuard P w K mg base g, tD K (.int 150)] → P'.Fx := AllFx.ctx (.cons tV_fx (.cons tGuard_fx (.cons tD_fx .nil)))
  refine s_fld rfl (gv_var rfl) T.c_Search T.n_Search_guard_asked g0 (FldFx.mem .nil) tGuard_fx [] rfl (by decide +kernel) ?_
  refine s_fld rfl (gv_var rfl) T.c_Search T.n_Search_most_watches g0 (FldFx.mem (.cons tGuard_fx .nil)) tD_fx ["guard_asked"] rfl (by decide +kernel) ?_
  refine q_set (r_first_watch (gv_var rfl) gk) ?_
  try dsimp only [List.set]
  refine q_when (b := false) (gb_val (gv_b0 (i := 150) (j := 1) (gv_var rfl) gv_int)) (fun h => nomatch h) (fun _ => ?_)
  have gx : CtxFx [some (tV (.ref a)), some (tGuard P w K mg base g), some (tD K (.int 150)), some (tD K (dWt (wt0 g.o g.ch g.kd)))] := .yes tV_fx (.yes tGuard_fx (.yes tD_fx (.yes tD_fx .nil)))
  have x2 : FldFx [("guard_asked", tGuard P w K mg base g), ("most_watches", tD K (.int 150))] := .cons tGuard_fx (.cons tD_fx .nil)
  intro σ H1 m1 s1
  obtain ⟨v3, h3, d3⟩ := s1.at_ 3 _ rfl
  obtain ⟨k1, us, k2, k3⟩ := id m1
  refine ⟨v3, h3, by rw [sizeLine_eq]; show 1 ≤ _; decide, fun l hl => ?_⟩
  have e1 : Same H1 (upd H1 l (.lst [v3])) := same_new hl
  have nla : l ≠ a := fun z => by
    rw [z, k2] at hl
    cases hl
  have hHl : H l = none := by
    cases z : H l with
    | none => rfl
    | some o =>
      rw [k1 l o nla z] at hl
      cases hl
  obtain ⟨x, hx1, hx2⟩ := (s1.up e1).at_ 0 _ rfl
  obtain ⟨us1, u1, u2, im1, m2⟩ := mi_put (P := tV (.ref l)) (v := .ref l) (f := "order") ((Mi a (cSearch K) dx H _).up e1 m1) (fresh_to (ns := ["guard_asked", "most_watches"]) (f := "order") rfl (by decide +kernel)).1 (fresh_to (ns := ["guard_asked", "most_watches"]) (f := "order") rfl (by decide +kernel)).2 x2.mem tV_fx rfl
  refine ⟨x, hx1, a, cSearch K, dx, us1, hx2, u1, T.c_Search, T.n_Search_order, u2, ?_⟩
  have s2 := gx.sat (s1.up e1) im1
  intro d hd
  have nda : d ≠ a := fun z => by
    rw [z, upd_same] at hd
    cases hd
  have ndl : d ≠ l := fun z => by
    rw [z, upd_ne nla, upd_same] at hd
    cases hd
  have hd1 : H1 d = none := by
    rw [upd_ne nda, upd_ne ndl] at hd
    exact hd
  have hHd : H d = none := by
    cases z : H d with
    | none => rfl
    | some o =>
      rw [k1 d o nda z] at hd1
      cases hd1
  have e2 := same_new (o := NdO P w d []) hd
  have s3 := s2.up e2
  obtain ⟨w3, hw3, hw4⟩ := s3.at_ 3 _ rfl
  obtain ⟨b3, xs3, ew, _, _⟩ := hw4.tup_inv
  subst ew
  refine ⟨_, hw3, b3, _, rfl, upd_same, hw4, kW_depth _, ?_⟩
  have im3 := nd_im (P := P) (w := w) (d := d) (E := []) (E' := [(kOf (dWt (wt0 g.o g.ch g.kd)), b3, .non)]) (H := upd (upd (upd H1 l (.lst [v3])) a (.ins (cSearch K) dx (putF "order" (.ref l) us1))) d (NdO P w d [])) upd_same
  have s4 := gx.sat s3 im3
  obtain ⟨y, hy1, hy2⟩ := s4.at_ 0 _ rfl
  have m3 := (Mi a (cSearch K) dx H _).up e2 m2
  obtain ⟨k1', us', k2', k3'⟩ := id m3
  have m4 : (Mi a (cSearch K) dx H [("guard_asked", tGuard P w K mg base g), ("most_watches", tD K (.int 150)), ("order", tV (.ref l))]).p (upd (upd (upd (upd H1 l (.lst [v3])) a (.ins (cSearch K) dx (putF "order" (.ref l) us1))) d (NdO P w d [])) d (NdO P w d [(kOf (dWt (wt0 g.o g.ch g.kd)), b3, .non)])) :=
    ⟨fun b o n h => by rw [upd_ne (fun z => by rw [z, hHd] at h; cases h)]; exact k1' b o n h, us', by rw [upd_ne (Ne.symm nda)]; exact k2', k3'.im im3 (FldFx.mem (.cons tGuard_fx (.cons tD_fx (.cons tV_fx .nil))))⟩
  obtain ⟨us2, v1, v2, im4, m5⟩ := mi_put (P := tV (.ref d)) (v := .ref d) (f := "ways") m4 (fresh_to (ns := ["guard_asked", "most_watches", "order"]) (f := "ways") rfl (by decide +kernel)).1 (fresh_to (ns := ["guard_asked", "most_watches", "order"]) (f := "ways") rfl (by decide +kernel)).2 (FldFx.mem (.cons tGuard_fx (.cons tD_fx (.cons tV_fx .nil)))) tV_fx rfl
  refine ⟨y, hy1, a, cSearch K, dx, us2, hy2, v1, T.c_Search, T.n_Search_ways, v2, ?_⟩
  have imA : Im H1 (upd (upd (upd (upd (upd H1 l (.lst [v3])) a (.ins (cSearch K) dx (putF "order" (.ref l) us1))) d (NdO P w d [])) d (NdO P w d [(kOf (dWt (wt0 g.o g.ch g.kd)), b3, .non)])) a (.ins (cSearch K) dx (putF "ways" (.ref d) us2))) := ((((Im.of e1).trans im1).trans (.of e2)).trans im3).trans im4
  refine q _ l d hHl hHd m5.1 m5.2 ⟨⟨[v3], ?_, .cons (Du.im imA d3) .nil⟩, _, ?_, .cons (Du.im (im3.trans im4) hw4) .non .nil⟩
  · rw [upd_ne nla, upd_ne (Ne.symm ndl), upd_ne (Ne.symm ndl), upd_ne nla]
    exact upd_same
  · rw [upd_ne nda]
    exact upd_same
end
end RP
set_option maxHeartbeats 4000000
namespace RP
open PySem PySem.Spec PyProof.Rows L2
section
variable {P : Program} {w : World} {K : PySem.W.Frag} {mg : Str → Option Value} {base : Heap} {Γ : Ctx} {ta tb tc td te : TE} {M : Hm} {g : Gu} {l d : Addr} {D : Ends} {u : TS}
/-- the way of a watch -/
theorem gvm_way {ent : Ent} {x : Wt} (hM : ∀ H, M.p H → SS P w K l d ent H) (hk : x ∈ keys ent) (hd : Gv Γ te (tV (.ref d))) (hx : Gv Γ ta (tD K (dWt x))) : GvM M Γ (tNGet P w K te ta) (tD K (dWay (wayOf ent x))) := fun σ H Q m s q =>
  hd σ H _ s fun v H1 e1 hv => hx σ H1 _ (s.up e1) fun y H2 e2 hy => by
    obtain rfl : v = .ref d := hv
    obtain ⟨a, xs, ey, _, _⟩ := hy.tup_inv
    subst ey
    obtain ⟨_, E, h1, h2⟩ := (hM H (by exact m)).up (e1.trans e2)
    obtain ⟨r, h3, h4⟩ := h2.way hk
    exact ⟨d, a, E, _, r, rfl, rfl, h1, h2.nk, hy, kW_depth x, h3, q r H2 (e1.trans e2) h4⟩
theorem g2_notN {dd : PyData} {r : R2} (hr : r = fun x y H Q => y = .non ∧ Q (.bl (!decide (x = .non))) H := by rfl) : G2 r (tD K dd) (tD K .none) (tD K (.bool (!isNone dd))) := fun x y H Q hx hy q => by
  subst hr
  refine ⟨Du.non_inv hy, q _ H (.refl H) ?_⟩
  rw [hx.isN]
  exact .bl _
theorem Dus.rev {H : Hp} : ∀ {vs : List V} {es : List PyData}, Dus K H vs es → Dus K H vs.reverse es.reverse
  | _, _, .nil => .nil
  | _, _, .cons h t => by
    rw [List.reverse_cons, List.reverse_cons]
    exact Dus.append (Dus.rev t) (.cons h .nil)
theorem gvm_rev {ds : List PyData} (he : GvM M Γ te (tL K ds)) : GvM M Γ (tRevL K te) (tL K ds.reverse) := fun σ H Q m s q => he σ H _ m s fun v H1 e1 hv => by
  obtain ⟨a, xs, e, h1, h2⟩ := hv
  refine ⟨a, xs, e, h1, fun p hp => q _ _ (e1.trans (same_new hp)) ⟨p, xs.reverse, rfl, SqL.of upd_same, ?_⟩⟩
  exact Dus.im (.of (same_new hp)) (Dus.rev h2)
/-- behind H a new list of whole numbers at f -/
def Hm.nl (H0 : Hp) (f : Addr) (ns : List Int) : Hm := ⟨fun H => Same H0 H ∧ H f = some (.lst (ns.map V.int)), fun e h => ⟨h.1.trans e, e _ _ h.2⟩⟩
theorem sc_Search_road_to : FnScope ["self", "watch", "speed", "found", "before"] ["self", "watch", "speed"] (defScope s_Search_road_to) := ⟨rfl, rfl, rfl, by decide +kernel, rfl, by decide +kernel, by decide +kernel⟩
structure Ro2 where
  g : Gu
  l : Addr
  d : Addr
  ent : Ent
  i : Nat
  q : Option (Wt × Int)
  x : Wt
  v : Int
structure Ro2Ok (i : Ro2) : Prop where
  b : BInv i.g.t i.g.o i.g.ch i.g.kd i.ent
  e : i.ent[i.i]? = some (i.x, i.q)
def tSS (P : Program) (w : World) (K : PySem.W.Frag) (mg : Str → Option Value) (base : Heap) (g : Gu) (l d : Addr) (ent : Ent) : Ty := ⟨fun v H => (tSe P w K mg base g l d).p v H ∧ SS P w K l d ent H, fun e h => ⟨(tSe P w K mg base g l d).up e h.1, h.2.up e⟩⟩
def spRoadTo (P : Program) (w : World) (K : PySem.W.Frag) (mg : Str → Option Value) (base : Heap) : Sp := spP Ro2Ok (fun i => [tSS P w K mg base i.g i.l i.d i.ent, tD K (dWt i.x), tD K (.int i.v)]) (fun i => tD K (dI (roadTo i.ent i.x i.v)))
theorem c_Search_road_to (T : Txt K mg) : CalM P w K mg base (cSearch K) "road_to" 1 (spRoadTo P w K mg base) := by
  obtain ⟨fd, F⟩ := T.d_Search_road_to
  refine ⟨_, fd, ["self", "watch", "speed"], ?_, T.m_Search_road_to, F.bindsN (fun _ _ _ _ _ _ us hl => match us, hl with | [_, _, _], _ => rfl)⟩
  refine F.ok sc_Search_road_to (fun vs H Q E ⟨i, _, h, _⟩ => h.len) fun cdv A outer s H vs Q E hr ⟨i, c, h, q⟩ => ?_
  refine ⟨_, PSs.nox (pss_cons (ps_set (i := 3) sc_Search_road_to.nd rfl (Or.inl rfl) (pe_lst (pa_cons (pv 2) pa_nil))) (pss_cons (ps_while PassesOwn.never (pt_cmpR op_notN (pe_nget hr.units (pe_fld (pv 0) rfl) (pv 1) (fun _ _ => rfl)) pe_non (nomark _)) (pss_cons (ps_asg (pe_nget hr.units (pe_fld (pv 0) rfl) (pv 1) (fun _ _ => rfl)) (pg_tup rfl (pgs_cons (pg_name (i := 1) sc_Search_road_to.nd rfl (Or.inl rfl)) (pgs_cons (pg_name (i := 4) sc_Search_road_to.nd rfl (Or.inl rfl)) pgs_nil)))) (pss_one (ps_expr (pe_bm PySem.F.plainAttrs_list PySem.F.slot_list_append PySem.F.type_list_append mt_append (pv 3) (pa_cons (pv 4) pa_nil)))))) (pss_one (ps_ret (pe_callTy (T := "tuple") (r := rTupOf K) call_tuple_of (by rfl) T.f_tuple (by decide +kernel) (pa_cons (pe_revL (pv 3)) pa_nil)))))), ?_⟩
  obtain ⟨g, l, d, ent, i, q0, x, v⟩ := i
  obtain ⟨(B : BInv g.t g.o g.ch g.kd ent), (he : ent[i]? = some (x, q0))⟩ := c
  have hSS : SS P w K l d ent H := by
    cases h with
    | cons h t => exact h.2
  have s0 : Sat (RP.ent ["self", "watch", "speed", "found", "before"] [tSe P w K mg base g l d, tD K (dWt x), tD K (.int v)]) (L2.start ["self", "watch", "speed", "found", "before"] vs) H := by
    cases h with
    | cons h t => exact (Pv.cons h.1 t).ent
  refine go_run (M := Hm.of H) ?_ (Same.refl H) s0
  try dsimp only [Cx.nox, cxOf, ent, List.map, List.length_cons, List.length_nil, List.replicate_succ, List.replicate_zero, List.cons_append, List.nil_append, List.set]
  intro σ H1 m1 s1
  obtain ⟨v2, h2, d2⟩ := s1.at_ 2 _ rfl
  obtain rfl := Du.int_inv d2
  refine ⟨_, h2, by rw [sizeLine_eq]; show 1 ≤ _; decide, fun f hf => ?_⟩
  have e1 : Same H1 (upd H1 f (.lst [V.int v])) := same_new hf
  have hHf : H f = none := by
    cases z : H f with
    | none => rfl
    | some o =>
      rw [m1 f o z] at hf
      cases hf
  have s2 := (s1.up e1).set (P := tV (.ref f)) (v := .ref f) 3 rfl
  have m2 : (Hm.nl H f [v]).p (upd H1 f (.lst [V.int v])) := ⟨Same.trans m1 e1, upd_same⟩
  dsimp only [gName]
  refine go_run (M := Hm.nl H f [v]) (Γ := [some (tSe P w K mg base g l d), some (tD K (dWt x)), some (tD K (.int v)), some (tV (.ref f)), none]) ?_ m2 s2
  refine q_whileM (fun y : Nat × Wt × List Int × Nat => [some (tSe P w K mg base g l d), some (tD K (dWt y.2.1)), some (tD K (.int v)), some (tV (.ref f)), none]) (fun y => Hm.nl H f y.2.2.1)
    (fun y => (∃ q, ent[y.1]? = some (y.2.1, q)) ∧ y.2.2.1 ++ backs ent y.2.2.2 y.2.1 = v :: backs ent ent.length x ∧ y.1 ≤ y.2.2.2 ∧ y.2.2.1.length + y.2.2.2 ≤ 151) (fun y => y.1) (fun y => (wayOf ent y.2.1).isSome) (i, x, [v], ent.length) ⟨⟨q0, he⟩, rfl, ?_, ?_⟩ rfl (fun H hh => hh) (fun y cy => ?_) (fun y cy hb nx hnx => ?_) (fun y cy hb => ?_)
  · have := (List.getElem?_eq_some_iff.mp he).1
    show i ≤ ent.length
    omega
  · have := B.len
    show 1 + ent.length ≤ 151
    omega
  · obtain ⟨⟨q, hq⟩, _⟩ := cy
    have hk : y.2.1 ∈ keys ent := List.mem_map.mpr ⟨_, List.mem_of_getElem? hq, rfl⟩
    have z := gvm_way (P := P) (w := w) (M := Hm.nl H f y.2.2.1) (Γ := [some (tSe P w K mg base g l d), some (tD K (dWt y.2.1)), some (tD K (.int v)), some (tV (.ref f)), none]) (te := tFld K (tVar 0) "ways") (ta := tVar 1) (fun H' hh => hSS.up hh.1) hk (gv_S_ways (g := g) (l := l) T (gv_var rfl)) (gv_var rfl)
    have z2 := gbm_val (GvM.eqB (gvm_op z (gvm_of (gv_non (K := K))) (g2_notN rfl)) (c := (wayOf ent y.2.1).isSome) (by cases wayOf ent y.2.1 <;> rfl))
    exact z2
  · obtain ⟨⟨q, hq⟩, h1, h2', h3⟩ := cy
    have hk : y.2.1 ∈ keys ent := List.mem_map.mpr ⟨_, List.mem_of_getElem? hq, rfl⟩
    obtain ⟨j, yw, acc, f'⟩ := y
    have hw := B.way hq
    have hb : (wayOf ent yw).isSome = true := hb
    have hw : wayOf ent yw = q := hw
    cases q with
    | none =>
      rw [hw] at hb
      cases hb
    | some p =>
      have j0 : 0 < j := by
        cases j with
        | zero =>
          have := B.e0
          rw [this] at hq
          cases hq
        | succ j => omega
      obtain ⟨aw, vv, k, ea, p1, p2', p3, p4, p5, p6⟩ := B.par j _ hq j0
      have hp : p = (aw, vv) := Option.some.inj p1
      subst hp
      have z := gvm_way (P := P) (w := w) (M := Hm.nl H f acc) (Γ := [some (tSe P w K mg base g l d), some (tD K (dWt yw)), some (tD K (.int v)), some (tV (.ref f)), none]) (te := tFld K (tVar 0) "ways") (ta := tVar 1) (fun H' hh => hSS.up hh.1) hk (gv_S_ways (g := g) (l := l) T (gv_var rfl)) (gv_var rfl)
      rw [hw] at z
      refine qm_asg z (gt_tup (ds := [dWt aw, .int vv]) (gts_cons gt_name (gts_cons gt_name gts_nil)) rfl) ?_
      try dsimp only [List.set]
      intro σ3 H3 m3 s3
      obtain ⟨v4, h4, d4⟩ := s3.at_ 4 _ rfl
      obtain rfl := Du.int_inv d4
      obtain ⟨v5, h5, h6⟩ := s3.at_ 3 _ rfl
      obtain rfl : v5 = .ref f := h6
      have hz : acc.length ≤ 151 := by
        have h3 : acc.length + f' ≤ 151 := h3
        omega
      refine ⟨_, h5, .inl ⟨rfl, _, SqL.of m3.2⟩, _, h4, f, _, .int vv, rfl, rfl, m3.2, small1000 (by rw [List.length_map]; omega), ?_⟩
      have im : Im H3 (upd H3 f (.lst (acc.map V.int ++ [.int vv]))) := .put m3.2 fun z => z
      have s4 := CtxFx.sat (.yes tSe_fx (.yes tD_fx (.yes tD_fx (.yes tV_fx (.yes tD_fx .nil))))) s3 im
      have hf1 : j ≤ f' := h2'
      obtain ⟨f2, rfl⟩ : ∃ f2, f' = f2 + 1 := ⟨f' - 1, by omega⟩
      have ek : ent[k]? = some (aw, ea.2) := by rw [p3, ← p4]
      refine hnx (k, aw, acc ++ [vv], f2) ⟨⟨_, ek⟩, ?_, ?_, ?_⟩ p2' σ3 _ ⟨fun b o hb => ?_, ?_⟩ (s4.wk (.keep (.keep (.keep (.keep (.any .nil))))))
      · have h1 : acc ++ backs ent (f2 + 1) yw = _ := h1
        rw [← h1, List.append_assoc]
        have eb : backs ent (f2 + 1) yw = vv :: backs ent f2 aw := by
          rw [backs]
          rw [hw]
        rw [eb]
        rfl
      · show k ≤ f2
        omega
      · have h3 : acc.length + (f2 + 1) ≤ 151 := h3
        show (acc ++ [vv]).length + f2 ≤ 151
        rw [List.length_append]
        show acc.length + 1 + f2 ≤ 151
        omega
      · rw [upd_ne (ne_of_none hb hHf)]
        exact m3.1 _ _ hb
      · rw [upd_same, List.map_append]
        rfl
  · obtain ⟨⟨q9, hq⟩, h1, h2', h3⟩ := cy
    obtain ⟨j, yw, acc, f'⟩ := y
    have hb : (wayOf ent yw).isSome = false := hb
    have hw : wayOf ent yw = none := by
      cases z : wayOf ent yw with
      | none => rfl
      | some _ => rw [z] at hb; cases hb
    have ea : acc = v :: backs ent ent.length x := by
      have h1 : acc ++ backs ent f' yw = _ := h1
      have eb : backs ent f' yw = [] := by
        cases f' with
        | zero => rfl
        | succ f' => rw [backs]; rw [hw]
      rw [eb, List.append_nil] at h1
      exact h1
    refine gom_ret (R := tD K (dI (roadTo ent x v))) (gvm_cb1 (gvm_rev (gvm_lst (ds := acc.map .int) (l := f) (gv_var rfl) fun H' hh => ⟨_, hh.2, Dus.of_ints acc⟩)) gc_tupL) (fun v' H' m' r => q v' H' m'.1 r) fun v' H' hv => ?_
    have er : (acc.map PyData.int).reverse = (roadTo ent x v).map .int := by
      unfold roadTo
      rw [ea, List.map_reverse]
    rw [er] at hv
    exact hv
end
end RP
set_option maxHeartbeats 4000000
namespace RP
open PySem PySem.Spec PyProof.Rows L2
/-! ### the search told -/
def dOut : Out → PyData
  | .many => .tuple [.str "many", .tuple []]
  | .stalls r => .tuple [.str "stalls", dI r]
  | .never ws => .tuple [.str "never", .tuple ((sortW ws).map dWt)]
section
variable {t : Tk} {o : Op} {ch : Ch} {kd : Kd} {f i : Nat} {a : Wt} {v : Int} {vs : List Int} {ent ent' : Ent}
def scanOut (t : Tk) (o : Op) (ch : Ch) (kd : Kd) (f i : Nat) (a : Wt) (vs : List Int) (ent : Ent) : Out := match scan t o ch kd a vs ent with
  | .go ent' => bfs t o ch kd f (i + 1) ent'
  | .stop v ent' => .stalls (roadTo ent' a v)
  | .many => .many
theorem bfs_step {e : Wt × Option (Wt × Int)} (h : ent[i]? = some e) : bfs t o ch kd (f + 1) i ent = scanOut t o ch kd f i e.1 (spds kd e.1) ent := by
  rw [bfs, h]
  rfl
theorem bfs_end (h : ent[i]? = none) : bfs t o ch kd (f + 1) i ent = .never (keys ent) := by
  rw [bfs, h]
theorem scan_nil : scanOut t o ch kd f i a [] ent = bfs t o ch kd f (i + 1) ent := rfl
theorem scan_stop (h : (led t o ch kd a v).1 = true) : scanOut t o ch kd f i a (v :: vs) ent = .stalls (roadTo ent a v) := by
  unfold scanOut
  rw [scan, if_pos h]
theorem scan_many (h : (led t o ch kd a v).1 = false) (hc : come ent (led t o ch kd a v).2 a v = none) : scanOut t o ch kd f i a (v :: vs) ent = .many := by
  unfold scanOut
  rw [scan, if_neg (by rw [h]; decide), hc]
theorem scan_go (h : (led t o ch kd a v).1 = false) (hc : come ent (led t o ch kd a v).2 a v = some ent') : scanOut t o ch kd f i a (v :: vs) ent = scanOut t o ch kd f i a vs ent' := by
  unfold scanOut
  rw [scan, if_neg (by rw [h]; decide), hc]
end
section
variable {P : Program} {w : World} {K : PySem.W.Frag} {mg : Str → Option Value} {base : Heap} {Γ : Ctx} {ta tb tc td te : TE} {M : Hm} {g : Gu} {l d : Addr} {D : Ends} {u : TS}
theorem SameS.trans {H H1 H2 : Hp} (x : SameS l d H H1) (y : SameS l d H1 H2) : SameS l d H H2 := fun b o n m e => y b o n m (x b o n m e)
theorem SameS.of {H H1 : Hp} (e : Same H H1) : SameS l d H H1 := fun b o _ _ h => e b o h
def Hm.se2 (P : Program) (w : World) (K : PySem.W.Frag) (H0 H1 : Hp) (l d : Addr) (ent : Ent) : Hm := ⟨fun H => SameS l d H0 H ∧ SS P w K l d ent H ∧ SameS l d H1 H, fun e h => ⟨h.1.trans (.of e), h.2.1.up e, h.2.2.trans (.of e)⟩⟩
theorem gvm_tup2 {d1 d2 : PyData} (h1 : Gv Γ ta (tD K d1)) (h2 : GvM M Γ tb (tD K d2)) : GvM M Γ (tTup (tCons ta (tCons tb tNil))) (tD K (.tuple [d1, d2])) := fun σ H Q m s q =>
  h1 σ H _ s fun x H1 e1 hx => h2 σ H1 _ (M.up e1 m) (s.up e1) fun y H2 e2 hy => ⟨by rw [sizeLine_eq]; show 2 ≤ _; decide, fun p hp => q _ _ ((e1.trans e2).trans (same_new hp)) (.tup (SqT.of upd_same) (.cons (hx.im ((Im.of e2).trans (.of (same_new hp)))) (.cons (hy.im (.of (same_new hp))) .nil)))⟩
theorem gvm_road {i : Ro2} (hM : ∀ H, M.p H → SS P w K i.l i.d i.ent H) (a0 : Gv Γ ta (tSe P w K mg base i.g i.l i.d)) (a1 : Gv Γ tb (tD K (dWt i.x))) (a2 : Gv Γ tc (tD K (.int i.v))) (c : Ro2Ok i) :
    GvM M Γ (tMeth (cSearch K) "road_to" (spRoadTo P w K mg base) [] E0 ta (tCons tb (tCons tc tNil))) (tD K (dI (roadTo i.ent i.x i.v))) := fun σ H Q m s q =>
  a0 σ H _ s fun x H1 e1 hx => by
    obtain ⟨p, dx, vs, h1, h2, h3⟩ := id hx
    exact ⟨p, dx, vs, h1, h2, h3.none (by rfl), (ga_cons a1 (ga_cons a2 ga_nil)) σ H1 _ (s.up e1) fun ws H2 e2 h4 => ⟨i, c, by rw [List.append_nil]; exact .cons ⟨(tSe P w K mg base i.g i.l i.d).up e2 hx, ((hM H m).up e1).up e2⟩ h4, fun v H' e3 hv => q v H' ((e1.trans e2).trans e3) hv⟩⟩
theorem sc_Search_told : FnScope ["self", "at", "watch", "speed", "stalled", "behind"] ["self"] (defScope s_Search_told) := ⟨rfl, rfl, rfl, by decide +kernel, rfl, by decide +kernel, by decide +kernel⟩
def spToldS (P : Program) (w : World) (K : PySem.W.Frag) (mg : Str → Option Value) (base : Heap) : Sp := fun vs H Q E => ∃ (g : Gu) (l d : Addr), GOk g ∧ Vch g.t g.ch ∧ Pv H [tSe P w K mg base g l d] vs ∧ SS P w K l d [(wt0 g.o g.ch g.kd, none)] H ∧
  (search g.t g.o g.ch g.kd ≠ .many → ∀ v H', SameS l d H H' → Du K H' v (dOut (search g.t g.o g.ch g.kd)) → Q v H') ∧
  (search g.t g.o g.ch g.kd = .many → ∀ dx H', SameS l d H H' → E (.ref (cToo K)) (some dx) H')
theorem c_Search_told (T : Txt K mg) : CalMX P w K mg base (cSearch K) "told" 7 (spToldS P w K mg base) := by
  obtain ⟨fd, F⟩ := T.d_Search_told
  refine ⟨_, fd, ["self"], ?_, T.m_Search_told, F.bindsN (fun _ _ _ _ _ _ us hl => match us, hl with | [_], _ => rfl)⟩
  refine F.ok sc_Search_told (fun vs H Q E ⟨g, l, d, _, _, h, _⟩ => h.len) fun cdv A outer s H vs Q E hr ⟨g, l, d, gk, vc, h, hSS, q1, q2⟩ => ?_
  refine ⟨_, (pss_cons (ps_set (i := 1) sc_Search_told.nd rfl (Or.inl rfl) pe_int) (pss_cons (ps_while (passes_of rfl) (pt_cmpR op_lt (pv 1) (pe_callB (id := "len") (r := rLn K) call_len_seq (by rfl) T.f_len (by decide +kernel) (pa_cons (pe_fld (pv 0) rfl) pa_nil)) (nomark _)) (pss_cons (ps_set (i := 2) sc_Search_told.nd rfl (Or.inl rfl) (pe_ix (r := rIxL K) ix_list (pe_fld (pv 0) rfl) (pv 1) (fun _ _ => rfl))) (pss_cons (ps_for (passes_of rfl) rfl (pi_tup (pe_calM (c_Guard_speeds_let T) T.c_Guard hr (by decide) (pe_fld (pv 0) rfl) (pa_cons (pv 2) pa_nil))) (pg_name (i := 3) sc_Search_told.nd rfl (Or.inl rfl)) (pss_cons (ps_asg (pe_calM (c_Guard_led T) T.c_Guard hr (by decide) (pe_fld (pv 0) rfl) (pa_cons (pv 2) (pa_cons (pv 3) pa_nil))) (pg_tup rfl (pgs_cons (pg_name (i := 4) sc_Search_told.nd rfl (Or.inl rfl)) (pgs_cons (pg_name (i := 5) sc_Search_told.nd rfl (Or.inl rfl)) pgs_nil)))) (pss_cons (ps_if (pt_val (pv 4)) (pss_one (ps_ret (pe_tup (pa_cons pe_str (pa_cons (pe_calM (c_Search_road_to T) T.c_Search hr (by decide) (pv 0) (pa_cons (pv 2) (pa_cons (pv 3) pa_nil))) pa_nil))))) pss_nil) (pss_one (ps_expr (pe_calMX (c_Search_come T) T.c_Search hr (by decide) (passes_call (takes_of rfl rfl rfl rfl) (fun _ _ _ _ h => h)) (pv 0) (pa_cons (pv 5) (pa_cons (pv 2) (pa_cons (pv 3) pa_nil))))))))) (pss_one (ps_aug (i := 1) sc_Search_told.nd rfl (Or.inl rfl) pe_int ip_add))))) (pss_one (ps_ret (pe_tup (pa_cons pe_str (pa_cons (pe_callTy (T := "tuple") (r := rTupOf K) call_tuple_of (by rfl) T.f_tuple (by decide +kernel) (pa_cons (pe_callB (id := "sorted") (cr_sortD hr.units) (by rfl) T.f_sorted (by decide +kernel) (pa_cons (pe_fld (pv 0) rfl) pa_nil)) pa_nil)) pa_nil))))))), ?_⟩
  refine go_run (M := Hm.se P w K H l d [(wt0 g.o g.ch g.kd, none)]) ?_ ⟨fun b o _ _ e => e, hSS⟩ h.ent
  try dsimp only [Cx.nox, cxOf, ent, List.map, List.length_cons, List.length_nil, List.replicate_succ, List.replicate_zero, List.cons_append, List.nil_append, List.set]
  refine q_set (gv_int (K := K)) ?_
  try dsimp only [List.set]
  have kl : ∀ ent : Ent, ((keys ent).map dWt).length = ent.length := fun ent => by simp [keys]
  refine q_whileM (fun y : Nat × Nat × Ent => [some (tSe P w K mg base g l d), some (tD K (.int (y.2.1 : Nat))), none, none, none, none]) (fun y => Hm.se P w K H l d y.2.2)
    (fun y => BInv g.t g.o g.ch g.kd y.2.2 ∧ bfs g.t g.o g.ch g.kd y.1 y.2.1 y.2.2 = search g.t g.o g.ch g.kd ∧ y.1 + y.2.1 = 151 ∧ y.2.1 ≤ y.2.2.length) (fun y => y.1) (fun y => decide (y.2.1 < y.2.2.length)) (151, 0, [(wt0 g.o g.ch g.kd, none)]) ⟨binv0 gk.t gk.o vc gk.k, rfl, rfl, Nat.zero_le _⟩ rfl (fun H hh => hh) (fun y cy => ?_) (fun y cy hb nx hnx => ?_) (fun y cy hb => ?_)
  · exact gbm_val (GvM.eqB (gvm_b0 (i := (y.2.1 : Nat)) (gvm_of (gv_var rfl)) (gvm_cb1 (gvm_lst (l := l) (ds := (keys y.2.2).map dWt) (gv_S_order (g := g) (d := d) T (gv_var rfl)) fun H m => m.2.1) gc_lenL)) (by
      rw [kl]
      exact decide_eq_decide.mpr ⟨fun z => by omega, fun z => by omega⟩))
  · obtain ⟨f, i, ent⟩ := y
    obtain ⟨(B : BInv g.t g.o g.ch g.kd ent), (hs : bfs g.t g.o g.ch g.kd f i ent = _), (hfi : f + i = 151), _⟩ := cy
    have hi : i < ent.length := of_decide_eq_true hb
    have hl := B.len
    obtain ⟨f, rfl⟩ : ∃ f', f = f' + 1 := ⟨f - 1, by omega⟩
    obtain ⟨e, he⟩ : ∃ e, ent[i]? = some e := ⟨ent[i], List.getElem?_eq_getElem hi⟩
    rw [bfs_step he] at hs
    have hok := B.ok e (List.mem_of_getElem? he)
    have hbd : WtB 1000 e.1 := ⟨Int.le_trans (B.bd i e he).1 (by omega), fun q hq => Int.le_trans ((B.bd i e he).2 q hq) (by omega)⟩
    refine qm_set (P := tD K (dWt e.1)) (gvm_ixL (i := (i : Nat)) (gvm_lst (l := l) (ds := (keys ent).map dWt) (gv_S_order (g := g) (d := d) T (gv_var rfl)) fun H m => m.2.1) (gvm_of (gv_var rfl)) (atI_nat (by
      unfold keys
      rw [List.map_map, List.getElem?_map, he]
      rfl))) ?_
    try dsimp only [List.set]
    refine q_forM (α := Ent) (n := (spds g.kd e.1).length) (gi_ints (ns := spds g.kd e.1) (r_speeds_let (gv_S_guard T (gv_var rfl)) (gv_var rfl))) (fun _ _ => [some (tSe P w K mg base g l d), some (tD K (.int (i : Nat))), some (tD K (dWt e.1)), none, none, none]) (fun H1 _ y => Hm.se2 P w K H H1 l d y)
      (fun j y => BInv g.t g.o g.ch g.kd y ∧ y[i]? = some e ∧ scanOut g.t g.o g.ch g.kd f i e.1 ((spds g.kd e.1).drop j) y = search g.t g.o g.ch g.kd) ent ⟨B, he, hs⟩ (fun σ H s => s.wk (.keep (.keep (.keep (.any (.any (.any .nil))))))) (fun H1 hh => ⟨hh.1, hh.2, fun b o _ _ e => e⟩) (fun H1 j y H' hh h2 => h2.2.2.im hh.2)
      (fun H1 j y hh hj cy nx2 hnx2 => ⟨_, gt_name, ?_⟩) (fun H1 y hh cy => ?_)
    · try dsimp only [List.set]
      obtain ⟨By, hey, hsy⟩ := cy
      have hv : (spds g.kd e.1).getD j 0 ∈ spds g.kd e.1 := getD_mem hj
      have ed : (spds g.kd e.1).drop j = (spds g.kd e.1).getD j 0 :: (spds g.kd e.1).drop (j + 1) := by
        rw [List.getD_eq_getElem?_getD, List.getElem?_eq_getElem hj]
        exact List.drop_eq_getElem_cons hj
      rw [ed] at hsy
      generalize (spds g.kd e.1).getD j 0 = v at hv hsy ⊢
      have hly := By.len
      refine q_asg (r_led (g := g) (x := e.1) (v := v) (gv_S_guard T (gv_var rfl)) (gv_var rfl) (gv_var rfl) gk hok hbd (spds_pos gk.k hv).1) (gt_tup (ds := [.bool (RP.led g.t g.o g.ch g.kd e.1 v).1, dOW (RP.led g.t g.o g.ch g.kd e.1 v).2]) (gts_cons gt_name (gts_cons gt_name gts_nil)) rfl) ?_
      try dsimp only [List.set]
      refine q_when (gb_b (gv_var rfl)) (fun hst => ?_) (fun hst => ?_)
      · rw [scan_stop hst] at hsy
        refine gom_ret (R := tD K (dOut (search g.t g.o g.ch g.kd))) (gvm_tup2 (gv_str (K := K)) (gvm_road (i := ⟨g, l, d, y, i, e.2, e.1, v⟩) (fun H hh => hh.2.1) (gv_var rfl) (gv_var rfl) (gv_var rfl) ⟨By, hey⟩)) (fun v' H' m' r => q1 (by rw [← hsy]; exact fun z => nomatch z) v' H' m'.1 r) fun v' H' hv' => ?_
        rw [← hsy]
        exact hv'
      · intro σ3 H3 m3 s3
        obtain ⟨x0, hx0, hx1⟩ := s3.at_ 0 _ rfl
        obtain ⟨p, dx, us, e1, e2, e3⟩ := id hx1
        obtain ⟨v5, h5, d5⟩ := s3.at_ 5 _ rfl
        obtain ⟨v2, h2, d2⟩ := s3.at_ 2 _ rfl
        obtain ⟨v3, h3, d3⟩ := s3.at_ 3 _ rfl
        refine ⟨_, hx0, p, dx, us, e1, e2, e3.none (by rfl), _, h5, _, h2, _, h3, ⟨g, l, d, y, (RP.led g.t g.o g.ch g.kd e.1 v).2, e.1, v⟩, hly, .cons hx1 (.cons d5 (.cons d2 (.cons d3 .nil))), m3.2.1, ?_⟩
        cases hc : come y (RP.led g.t g.o g.ch g.kd e.1 v).2 e.1 v with
        | none =>
          rw [scan_many hst hc] at hsy
          exact fun dx H' hh => q2 hsy.symm dx H' (m3.1.trans hh)
        | some y' =>
          rw [scan_go hst hc] at hsy
          obtain ⟨By', ⟨l', el'⟩, _⟩ := come_inv gk.t gk.o vc gk.k By hey hv hst hc
          intro H' hh hSS'
          refine hnx2 y' ⟨By', ?_, hsy⟩ σ3 H' ⟨m3.1.trans hh, hSS', m3.2.2.trans hh⟩ ?_
          · rw [el', List.getElem?_append_left (List.getElem?_eq_some_iff.mp hey).1]
            exact hey
          · exact (CtxFx.sat (.yes tSe_fx (.yes tD_fx (.yes tD_fx (.yes tD_fx (.yes tD_fx (.yes tD_fx .nil)))))) s3 (hh.im m3.2.1)).wk (.keep (.keep (.keep (.any (.any (.any .nil))))))
    · obtain ⟨By, hey, hsy⟩ := cy
      have en : (spds g.kd e.1).drop (spds g.kd e.1).length = [] := List.drop_length
      rw [en, scan_nil] at hsy
      have hly := (List.getElem?_eq_some_iff.mp hey).1
      have z := hnx (f, i + 1, y) ⟨By, hsy, by show f + (i + 1) = 151; omega, hly⟩ (by show f < f + 1; omega)
      refine go_aug (f := fun i j => i + j) (a := (i : Nat)) (b := 1) rfl gv_int fun σ3 H3 m3 s3 => z σ3 H3 ⟨m3.1, m3.2.1⟩ (s3.wk ?_)
      exact .keep (.to (fun v H h => by
        have e : (((i + 1 : Nat) : Nat) : Int) = (i : Int) + 1 := by omega
        rw [e]
        exact h) (.any (.any (.any (.any .nil)))))
  · obtain ⟨f, i, ent⟩ := y
    obtain ⟨(B : BInv g.t g.o g.ch g.kd ent), (hs : bfs g.t g.o g.ch g.kd f i ent = _), (hfi : f + i = 151), _⟩ := cy
    have hi : ¬ i < ent.length := of_decide_eq_false hb
    have hl := B.len
    have hi2 : i ≤ ent.length := by assumption
    obtain ⟨f, rfl⟩ : ∃ f', f = f' + 1 := ⟨f - 1, by omega⟩
    rw [bfs_end (List.getElem?_eq_none (by omega))] at hs
    refine gom_ret (R := tD K (dOut (search g.t g.o g.ch g.kd))) (gvm_tup2 (gv_str (K := K)) (gvm_cb1 (gvm_cb1 (gvm_lst (l := l) (ds := (keys ent).map dWt) (gv_S_order (g := g) (d := d) T (gv_var rfl)) fun H m => m.2.1) gc_sortW) gc_tupL)) (fun v' H' m' r => q1 (by rw [← hs]; exact fun z => nomatch z) v' H' m'.1 r) fun v' H' hv' => ?_
    rw [← hs]
    exact hv'
end
end RP
set_option maxHeartbeats 4000000
namespace RP
open PySem PySem.Spec PyProof.Rows L2
section
variable {P : Program} {w : World} {K : PySem.W.Frag} {mg : Str → Option Value} {base : Heap} {Γ : Ctx} {ta tb tc td te tf' tg : TE} {M : Hm} {g : Gu} {D : Ends} {u : TS}
theorem ck_Guard_init (T : Txt K mg) : CalCK P w K mg base "Guard" (cGuard K) 2 3 kwO gApp (spGuard P w K mg base) := c_Guard_init T
theorem r_Guard {g : Gu} (a1 : Gv Γ ta (tTalk K g.t)) (a2 : Gv Γ tb (tCz P w K mg base g.t.N g.c)) (a3 : Gv Γ tc (tD K (dKd g.kd))) (a4 : Gv Γ td (tD K (.int g.o.beg))) (a5 : Gv Γ te (tD K (.int g.o.aga))) (a6 : Gv Γ tf' (tD K (.int g.o.mst))) (a7 : Gv Γ tg (tD K (.int g.o.wai))) (c1 : TOk g.t) (c2 : OOk g.t g.o) :
    Gv Γ (tMakeK (cGuard K) 3 4 (spGuard P w K mg base) gApp E0 (tCons ta (tCons tb (tCons tc tNil))) (tCons td (tCons te (tCons tf' (tCons tg tNil))))) (tGuard P w K mg base g) :=
  gv_makeK g (ga_cons a1 (ga_cons a2 (ga_cons a3 ga_nil))) (ga_cons a4 (ga_cons a5 (ga_cons a6 (ga_cons a7 ga_nil)))) rfl rfl (fun x vs zs => ⟨vs ++ zs, rfl, fun H h1 h2 => h1.app h2⟩) ⟨c1, c2⟩
theorem sc_never_stalls : FnScope ["talk", "chooser", "kind", "limit", "begin", "again", "most", "wait", "guard"] ["talk", "chooser", "kind", "limit", "begin", "again", "most", "wait"] (defScope s_never_stalls) := ⟨rfl, rfl, rfl, by decide +kernel, rfl, by decide +kernel, by decide +kernel⟩
abbrev tNs (P : Program) (w : World) (K : PySem.W.Frag) (mg : Str → Option Value) (base : Heap) (g : Gu) : List Ty := [tTalk K g.t, tCz P w K mg base g.t.N g.c, tD K (dKd g.kd), tD K (.int 150), tD K (.int g.o.beg), tD K (.int g.o.aga), tD K (.int g.o.mst), tD K (.int g.o.wai)]
def spNeverS (P : Program) (w : World) (K : PySem.W.Frag) (mg : Str → Option Value) (base : Heap) : Sp := fun vs H Q E => ∃ g : Gu, GOk g ∧ Vch g.t g.ch ∧ Pv H (tNs P w K mg base g) vs ∧
  (search g.t g.o g.ch g.kd ≠ .many → ∀ v H', Same H H' → Du K H' v (dOut (search g.t g.o g.ch g.kd)) → Q v H') ∧
  (search g.t g.o g.ch g.kd = .many → ∀ dx H', Same H H' → E (.ref (cToo K)) (some dx) H')
abbrev kwL : List Str := ["limit", "begin", "again", "most", "wait"]
theorem c_never_stalls (T : Txt K mg) : CalKX P w K mg base "never_stalls" 9 3 kwL gApp (spNeverS P w K mg base) := by
  obtain ⟨fd, F⟩ := T.d_never_stalls
  obtain ⟨mv, B⟩ := F.kbinds0 (ps := ["talk", "chooser", "kind", "limit", "begin", "again", "most", "wait"]) 3 kwL [] (fun us _ ws => us ++ ws) (fun h => nomatch h) (fun _ h => nomatch h) (fun r _ q => r.append q)
    (fun D doc pm an cdv ct us mv ws h1 h2 h3 => match us, ws, h1, h3 with | [_, _, _], [_, _, _, _, _], _, _ => rfl)
  refine ⟨_, fd, _, _, ?_, T.g_never_stalls, F.kp, B⟩
  refine F.ok sc_never_stalls (fun vs H Q E ⟨g, _, _, h, _⟩ => h.len) fun cdv A outer s H vs Q E hr ⟨g, gk, vc, h, q1, q2⟩ => ?_
  refine ⟨_, (pss_cons (ps_set (i := 8) sc_never_stalls.nd rfl (Or.inl rfl) (pe_calCK (ck_Guard_init T) hr (by decide) rfl (pa_cons (pv 0) (pa_cons (pv 1) (pa_cons (pv 2) pa_nil))) (pk_cons (pv 4) (pk_cons (pv 5) (pk_cons (pv 6) (pk_cons (pv 7) pk_nil)))))) (pss_one (ps_ret (pe_calMX0 (c_Search_told T) T.c_Search hr (by decide) (passes_call (takes_of rfl rfl rfl rfl) (fun _ _ _ _ h => h)) (pe_calC (c_Search_init T) hr (by decide) rfl (pa_cons (pv 8) (pa_cons (pv 3) pa_nil))))))), ?_⟩
  refine go_run (M := Hm.of H) ?_ (Same.refl H) h.ent
  try dsimp only [Cx.nox, cxOf, ent, List.map, List.length_cons, List.length_nil, List.replicate_succ, List.replicate_zero, List.cons_append, List.nil_append, List.set]
  refine q_set (r_Guard (g := g) (gv_var rfl) (gv_var rfl) (gv_var rfl) (gv_var rfl) (gv_var rfl) (gv_var rfl) (gv_var rfl) gk.t gk.o) ?_
  try dsimp only [List.set]
  intro σ H1 m1 s1
  obtain ⟨v8, h8, d8⟩ := s1.at_ 8 _ rfl
  obtain ⟨v3, h3, d3⟩ := s1.at_ 3 _ rfl
  refine ⟨_, h8, _, h3, fun x dx nx nd _ => ?_⟩
  have e1 := made_up (Co := cSearch K) nx nd
  refine ⟨g, x, dx, _, gk, rfl, upd_same, .cons ((tGuard P w K mg base g).up e1 d8) (.cons ((tD K (.int 150)).up e1 d3) .nil), fun H2 l d hl hd k hf hSS => ⟨rfl, ?_⟩⟩
  have e2 : Same H1 H2 := made_same nx nd k
  obtain ⟨us, hu1, hu2⟩ := hf
  have sm : ∀ {H' : Hp}, SameS l d H2 H' → Same H H' := fun {H'} hh b o hb => by
    have hb1 := m1 b o hb
    have hl1 : H1 l = none := by
      cases z : H1 l with
      | none => rfl
      | some o => rw [e1 l o z] at hl; cases hl
    have hd1 : H1 d = none := by
      cases z : H1 d with
      | none => rfl
      | some o => rw [e1 d o z] at hd; cases hd
    exact hh b o (ne_of_none hb1 hl1) (ne_of_none hb1 hd1) (e2 b o hb1)
  exact ⟨x, dx, us, rfl, hu1, hu2.none (by rfl), g, l, d, gk, vc, .cons ⟨x, dx, us, rfl, hu1, hu2⟩ .nil, hSS, fun hm v' H' hh hv => q1 hm v' H' (sm hh) hv, fun hm dx' H' hh => q2 hm dx' H' (sm hh)⟩
end
end RP
set_option maxHeartbeats 4000000
namespace RP
open PySem PySem.Spec PyProof.Rows L2
/-! ### sorted watches are in strict order -/
theorem toks_ints_inj : ∀ {a b : List Int} {l m : List (Int ⊕ List Nat)}, PySem.W.keyToksAll (a.map .int) ++ l = PySem.W.keyToksAll (b.map .int) ++ m → a = b
  | [], [], _, _, _ => rfl
  | [], y :: b, _, _, h => by simp [PySem.W.keyToksAll, PySem.W.keyToks] at h
  | x :: a, [], _, _, h => by simp [PySem.W.keyToksAll, PySem.W.keyToks] at h
  | x :: a, y :: b, l, m, h => by
    simp only [List.map_cons, PySem.W.keyToksAll, PySem.W.keyToks, List.cons_append, List.nil_append, List.cons.injEq, Sum.inl.injEq, true_and] at h
    rw [h.1, toks_ints_inj h.2]
theorem toks_wt_inj {x y : Wt} (h : PySem.W.keyToks (dWt x) = PySem.W.keyToks (dWt y)) : x = y := by
  obtain ⟨⟨n, c, g, k, p, w⟩, r, la, we, pa⟩ := x
  obtain ⟨⟨n', c', g', k', p', w'⟩, r', la', we', pa'⟩ := y
  have h : PySem.W.keyToks (.tuple [dSd ⟨n, c, g, k, p, w⟩, .int r, dLa la, .int we, dI pa]) = PySem.W.keyToks (.tuple [dSd ⟨n', c', g', k', p', w'⟩, .int r', dLa la', .int we', dI pa']) := h
  cases la with
  | none =>
    cases la' with
    | none =>
      simp only [PySem.W.keyToks, PySem.W.keyToksAll, dSd, dLa, List.cons_append, List.nil_append, List.append_assoc, List.cons.injEq, Sum.inl.injEq, true_and] at h
      obtain ⟨a1, a2, a3, a4, a5, a6, a7, a8, a9⟩ := h
      have a1 : n = n' := Int.ofNat.inj a1
      have a9 := toks_ints_inj a9
      subst a1 a2 a3 a4 a5 a6 a7 a8 a9
      rfl
    | some q => simp [PySem.W.keyToks, PySem.W.keyToksAll, dSd, dLa] at h
  | some q =>
    cases la' with
    | none => simp [PySem.W.keyToks, PySem.W.keyToksAll, dSd, dLa] at h
    | some q' =>
      simp only [PySem.W.keyToks, PySem.W.keyToksAll, dSd, dLa, List.cons_append, List.nil_append, List.append_assoc, List.cons.injEq, Sum.inl.injEq, true_and] at h
      obtain ⟨a1, a2, a3, a4, a5, a6, a7, b1, b2, a8, a9⟩ := h
      have a1 : n = n' := Int.ofNat.inj a1
      have a9 := toks_ints_inj a9
      obtain ⟨q1, q2⟩ := q
      obtain ⟨q1', q2'⟩ := q'
      have b1 : q1 = q1' := b1
      have b2 : q2 = q2' := b2
      subst a1 a2 a3 a4 a5 a6 a7 a8 a9 b1 b2
      rfl
theorem sortW_perm (ws : List Wt) : (sortW ws).Perm ws := List.mergeSort_perm ws _
theorem sortW_mem {ws : List Wt} {x : Wt} : x ∈ sortW ws ↔ x ∈ ws := (sortW_perm ws).mem_iff
theorem sortW_strict {ws : List Wt} (nd : ws.Nodup) : (sortW ws).Pairwise (fun a b => PySem.W.dataLt (dWt a) (dWt b) = true) := by
  have h1 : (sortW ws).Pairwise (fun a b => PySem.W.dataLe false dWt a b = true) := PySem.W.sort_pairwise (PySem.W.sortLe_total _ false _) ws
  have h2 : (sortW ws).Pairwise (fun a b => a ≠ b) := (sortW_perm ws).nodup_iff.mpr nd
  refine (h1.and h2).imp fun {a b} h => ?_
  obtain ⟨h3, h4⟩ := h
  have h3 : (!(PyProof.Rows.lexLt itemOrd (PySem.W.keyToks (dWt b)) (PySem.W.keyToks (dWt a)))) = true := h3
  show PyProof.Rows.lexLt itemOrd (PySem.W.keyToks (dWt a)) (PySem.W.keyToks (dWt b)) = true
  cases q : PyProof.Rows.lexLt itemOrd (PySem.W.keyToks (dWt a)) (PySem.W.keyToks (dWt b)) with
  | true => rfl
  | false =>
    have q2 : PyProof.Rows.lexLt itemOrd (PySem.W.keyToks (dWt b)) (PySem.W.keyToks (dWt a)) = false := by simpa using h3
    exact absurd (toks_wt_inj ((listOrd itemOrd).total _ _ q q2)) h4
def wtD : Wt := wt0 ⟨0, 0, 0, 0⟩ (fun _ _ _ _ => 0) ⟨0, 0, 0, 0⟩
/-! ### a dict of watches -/
section
variable {P : Program} {w : World} {K : PySem.W.Frag} {mg : Str → Option Value} {base : Heap} {H H' : Hp} {Γ : Ctx} {ta tb tc td te tf' tg : TE}
inductive KM (K : PySem.W.Frag) (H : Hp) : NE → List Wt → Prop
  | nil : KM K H [] []
  | cons {ka : Addr} {v : V} {x : Wt} {E : NE} {ws : List Wt} (hk : Du K H (.ref ka) (dWt x)) (t : KM K H E ws) : KM K H ((kOf (dWt x), ka, v) :: E) (x :: ws)
theorem KM.im (e : Im H H') : ∀ {E : NE} {ws : List Wt}, KM K H E ws → KM K H' E ws
  | _, _, .nil => .nil
  | _, _, .cons h t => .cons (h.im e) (KM.im e t)
theorem KM.nk : ∀ {E : NE} {ws : List Wt}, KM K H E ws → NKeys K H E
  | _, _, .nil => nkeys_nil
  | _, _, .cons (x := x) h t => fun p hp => by
    rcases List.mem_cons.mp hp with e | hp
    · subst e
      exact ⟨_, h, rfl, kW_depth x⟩
    · exact KM.nk t p hp
theorem KM.len : ∀ {E : NE} {ws : List Wt}, KM K H E ws → E.length = ws.length
  | _, _, .nil => rfl
  | _, _, .cons _ t => congrArg Nat.succ t.len
theorem KM.snoc {ka : Addr} {v : V} {x : Wt} (hk : Du K H (.ref ka) (dWt x)) : ∀ {E : NE} {ws : List Wt}, KM K H E ws → KM K H (E ++ [(kOf (dWt x), ka, v)]) (ws ++ [x])
  | _, _, .nil => .cons hk .nil
  | _, _, .cons h t => .cons h (KM.snoc hk t)
theorem KM.mem {y : Wt} : ∀ {E : NE} {ws : List Wt}, KM K H E ws → (kOf (dWt y) ∈ E.map (·.1) ↔ y ∈ ws)
  | _, _, .nil => by simp
  | _, _, .cons (x := x) (ws := ws) h t => by
    have ih := KM.mem (y := y) t
    show _ ∈ _ :: _ ↔ y ∈ x :: ws
    rw [List.mem_cons, List.mem_cons, ih]
    exact ⟨fun z => z.elim (fun z => .inl (kW_inj z)) .inr, fun z => z.elim (fun z => .inl (by rw [z])) .inr⟩
theorem KM.look {y : Wt} {E : NE} {ws : List Wt} (h : KM K H E ws) : (lookN E (kOf (dWt y))).isSome = decide (y ∈ ws) := by
  rw [lookN_mem]
  exact decide_eq_decide.mpr h.mem
def tKn (P : Program) (w : World) (K : PySem.W.Frag) (ws : List Wt) : Ty := ⟨fun v H => ∃ d E, v = .ref d ∧ H d = some (NdO P w d E) ∧ KM K H E ws, fun e ⟨d, E, h1, h2, h3⟩ => ⟨d, E, h1, e _ _ h2, h3.im (.of e)⟩⟩
theorem gv_inK {ws : List Wt} {x : Wt} (neg : Bool) (hx : Gv Γ ta (tD K (dWt x))) (hd : Gv Γ te (tKn P w K ws)) : Gv Γ (tOp (rInN P w K neg) ta te) (tD K (.bool (neg.xor (decide (x ∈ ws))))) := gv_op hx hd fun y u H Q hy hu q => by
  obtain ⟨d, E, rfl, h1, h2⟩ := hu
  obtain ⟨a, xs, ey, _, _⟩ := hy.tup_inv
  subst ey
  refine ⟨d, a, E, _, rfl, rfl, h1, h2.nk, hy, kW_depth x, ?_⟩
  show Q (.bl (neg.xor (lookN E (kOf (dWt x))).isSome)) H
  rw [h2.look]
  exact q _ H (.refl H) (.bl _)
/-- {x: True for x in ..} -/
theorem gv_dcW {wi : TI} {j : Nat} {ws : List Wt} (hi : Gi Γ wi ws.length (fun i => tD K (dWt (ws.getD i wtD)))) (nd : ws.Nodup) (hz : ws.length ≤ 1000) (hj : j < Γ.length) :
    Gv Γ (tDcN P w K wi (gName j) tYes (tVar j) (tC (.bl true)) [j]) (tKn P w K ws) := fun σ H Q s q => hi σ H _ s fun J H1 G e1 hG w' D hD => by
  have e2 := same_new (o := NdO P w D []) hD
  refine ⟨fun i m H' => m = ws.length - i ∧ i ≤ ws.length ∧ Same H1 H' ∧ ∃ E, H' D = some (NdO P w D E) ∧ KM K H' E (ws.take i), ⟨ws.length, by simp, Nat.zero_le _, e2, [], upd_same, .nil⟩, ?_⟩
  rintro i m H' ⟨rfl, hil, p1, E, p2, p3⟩
  have hg := hG H' (.of p1)
  by_cases hlt : i < ws.length
  · refine .inr ⟨w'.goes i H' hlt hg, fun H3 => i + 1 ≤ ws.length ∧ Same H1 H3 ∧ ∃ E, H3 D = some (NdO P w D E) ∧ KM K H3 E (ws.take (i + 1)), fun H3 h3 => ⟨ws.length - (i + 1), by omega, rfl, h3⟩, fun x H2 y => ?_⟩
    obtain ⟨y1, y2⟩ := w'.yields i H' x H2 hlt hg y
    have ew : ws.getD i wtD = ws[i] := by
      rw [List.getD_eq_getElem?_getD, List.getElem?_eq_getElem hlt]
      rfl
    have hx := y2 hG (.of p1)
    dsimp only at hx
    rw [ew] at hx
    obtain ⟨a, xs, ex, _, _⟩ := Du.tup_inv hx
    subst ex
    have hl : j < (wipe σ [j]).length := by
      show j < (σ.set j none).length
      rw [List.length_set, s.len]
      exact hj
    refine ⟨wipe1 (σ := σ) (j := j) (x := .ref a), ?_⟩
    unfold tYes
    refine iteT ⟨_, by rw [List.getElem?_set_self hl], ?_⟩
    have p3' := p3.im (.of y1)
    have p2' := y1 _ _ p2
    have hni : ws[i] ∉ ws.take i := fun hm => by
      obtain ⟨k, hk, e⟩ := List.mem_take_iff_getElem.mp hm
      have hk2 : k < i := by omega
      exact List.pairwise_iff_getElem.mp nd k i (by omega) hlt hk2 e
    have hn : lookN E (kOf (dWt ws[i])) = none := by
      have z := p3'.look (y := ws[i])
      rw [decide_eq_false hni] at z
      cases q : lookN E (kOf (dWt ws[i])) with
      | none => rfl
      | some _ => rw [q] at z; cases z
    have le := p3.len
    rw [List.length_take] at le
    refine ⟨E, _, a, rfl, p2', p3'.nk, hx, kW_depth _, hn, by omega, hlt, fun b o hb => ?_, _, upd_same, ?_⟩
    · rw [upd_ne (ne_of_none hb hD)]
      exact y1 _ _ (p1 _ _ hb)
    · have im := nd_im (E' := E ++ [(kOf (dWt ws[i]), a, .bl true)]) p2'
      rw [List.take_add_one, List.getElem?_eq_getElem hlt]
      exact KM.snoc (hx.im im) (p3'.im im)
  · have ei : i = ws.length := by omega
    subst ei
    rw [List.take_of_length_le (Nat.le_refl _)] at p3
    exact .inl ⟨w'.stops H' hg, q _ H' (e1.trans p1) ⟨D, E, rfl, p2, p3⟩⟩
end
end RP
set_option maxHeartbeats 4000000
namespace RP
open PySem PySem.Spec PyProof.Rows L2
section
variable {P : Program} {w : World} {K : PySem.W.Frag} {mg : Str → Option Value} {base : Heap} {Γ : Ctx} {ta tb tc td te tf' tg : TE}
theorem sc_leads_within : FnScope ["guard", "watch", "known", "speed", "stalled", "behind"] ["guard", "watch", "known"] (defScope s_leads_within) := ⟨rfl, rfl, rfl, by decide +kernel, rfl, by decide +kernel, by decide +kernel⟩
structure Lw where
  g : Gu
  x : Wt
  ws : List Wt
structure LwOk (i : Lw) : Prop where
  g : GOk i.g
  x : WtOk i.g.t i.g.o i.g.kd i.x
  b : WtB 1000 i.x
  c : ∀ v ∈ spds i.g.kd i.x, (RP.led i.g.t i.g.o i.g.ch i.g.kd i.x v).1 = false ∧ ∀ y, (RP.led i.g.t i.g.o i.g.ch i.g.kd i.x v).2 = some y → y ∈ i.ws
def spLeads (P : Program) (w : World) (K : PySem.W.Frag) (mg : Str → Option Value) (base : Heap) : Sp := spP LwOk (fun i => [tGuard P w K mg base i.g, tD K (dWt i.x), tKn P w K i.ws]) (fun _ => tD K (.bool true))
theorem c_leads_within (T : Txt K mg) : Cal P w K mg base "leads_within" 7 [] (spLeads P w K mg base) := by
  obtain ⟨fd, F⟩ := T.d_leads_within
  refine ⟨_, fd, ["guard", "watch", "known"], [], ?_, T.g_leads_within, F.kp, F.bindsN (fun _ _ _ _ _ _ us hl => match us, hl with | [_, _, _], _ => rfl), .nil⟩
  refine pure_ok F sc_leads_within (fun _ => rfl) fun cdv A outer s H E i hr c => ⟨_, (pss_cons (ps_for PassesOwn.never rfl (pi_tup (pe_calM (c_Guard_speeds_let T) T.c_Guard hr (by decide) (pv 0) (pa_cons (pv 1) pa_nil))) (pg_name (i := 3) sc_leads_within.nd rfl (Or.inl rfl)) (pss_cons (ps_asg (pe_calM (c_Guard_led T) T.c_Guard hr (by decide) (pv 0) (pa_cons (pv 1) (pa_cons (pv 3) pa_nil))) (pg_tup rfl (pgs_cons (pg_name (i := 4) sc_leads_within.nd rfl (Or.inl rfl)) (pgs_cons (pg_name (i := 5) sc_leads_within.nd rfl (Or.inl rfl)) pgs_nil)))) (pss_one (ps_if (PW.pt (pw_or (pt_val (pv 4)) (pw_or1 (PW.pt (pw_and (pt_cmpR op_notN (pv 5) pe_non (nomark _)) (pw_and1 (pt_cmpR (r := rInN P w K true) (op_notIn_nd hr.units) (pv 5) (pv 2) (by with_unfolding_all rfl)))))))) (pss_one (ps_ret pe_bl)) pss_nil)))) (pss_one (ps_ret pe_bl))), fun M D r nn => ?_⟩
  try dsimp only [Cx.nox, cxOf, ent, List.map, List.length_cons, List.length_nil, List.replicate_succ, List.replicate_zero, List.cons_append, List.nil_append, List.set]
  obtain ⟨g, x, ws⟩ := i
  obtain ⟨(gk : GOk g), (xk : WtOk g.t g.o g.kd x), (xb : WtB 1000 x), hc⟩ := c
  refine q_for (n := (spds g.kd x).length) (gi_ints (ns := spds g.kd x) (r_speeds_let (gv_var rfl) (gv_var rfl))) (fun _ => [some (tGuard P w K mg base g), some (tD K (dWt x)), some (tKn P w K ws), none, none, none]) (fun σ H s => s.wk (.keep (.keep (.keep (.any (.any (.any .nil))))))) (fun k hk M' nx hM hnx => ⟨_, gt_name, ?_⟩) ?_
  · try dsimp only [List.set]
    have hv : (spds g.kd x).getD k 0 ∈ spds g.kd x := getD_mem hk
    obtain ⟨c1, c2⟩ := hc _ hv
    dsimp only at c1 c2
    generalize (spds g.kd x).getD k 0 = v at hv c1 c2 ⊢
    refine q_asg (r_led (g := g) (x := x) (v := v) (gv_var rfl) (gv_var rfl) (gv_var rfl) gk xk xb (spds_pos gk.k hv).1) (gt_tup (ds := [.bool (RP.led g.t g.o g.ch g.kd x v).1, dOW (RP.led g.t g.o g.ch g.kd x v).2]) (gts_cons gt_name (gts_cons gt_name gts_nil)) rfl) ?_
    try dsimp only [List.set]
    have nxt : Nx M' [some (tGuard P w K mg base g), some (tD K (dWt x)), some (tKn P w K ws), some (tD K (.int v)), some (tD K (.bool (RP.led g.t g.o g.ch g.kd x v).1)), some (tD K (dOW (RP.led g.t g.o g.ch g.kd x v).2))] nx := hnx.wk (.keep (.keep (.keep (.any (.any (.any .nil))))))
    rw [c1] at nxt ⊢
    cases hy : (RP.led g.t g.o g.ch g.kd x v).2 with
    | none =>
      rw [hy] at nxt
      exact go_if (b := false) (gb_or (b := false) (c := false) (gb_val (gv_var rfl)) fun _ => gb_and (b := false) (c := false) (gb_val (gv_notN (d := .none) rfl (gv_var rfl) gv_non)) fun h => nomatch h) (fun h => nomatch h) fun _ => go_next nxt
    | some y =>
      rw [hy] at nxt
      have hm := c2 y hy
      refine go_if (b := false) (gb_or (b := false) (c := false) (gb_val (gv_var rfl)) fun _ => gb_and (b := true) (c := false) (gb_val (gv_notN (d := dWt y) rfl (gv_var rfl) gv_non)) fun _ => gb_val (K := K) ?_) (fun h => nomatch h) fun _ => go_next nxt
      have z := gv_inK (P := P) (w := w) (K := K) (Γ := [some (tGuard P w K mg base g), some (tD K (dWt x)), some (tKn P w K ws), some (tD K (.int v)), some (tD K (.bool false)), some (tD K (dWt y))]) (ws := ws) (x := y) true (ta := tVar 5) (te := tVar 2) (gv_var rfl) (gv_var rfl)
      rw [decide_eq_true hm] at z
      exact z
  · exact go_retD r gv_bl rfl
theorem r_leads_within {i : Lw} (a1 : Gv Γ ta (tGuard P w K mg base i.g)) (a2 : Gv Γ tb (tD K (dWt i.x))) (a3 : Gv Γ tc (tKn P w K i.ws)) (c : LwOk i) : Gv Γ (tCall (spLeads P w K mg base) [] E0 (tCons ta (tCons tb (tCons tc tNil)))) (tD K (.bool true)) := gv_call0 i (ga_cons a1 (ga_cons a2 (ga_cons a3 ga_nil))) rfl c
/-! ### pairs of neighbours -/
theorem walk_zipS {a b : Addr} {xs ys : List V} (hl : xs.length = ys.length) : Walk (ItzS K a b) xs.length (fun H => SqT K H a xs ∧ SqT K H b ys) (YPair (fun i => xs[i]?) (fun i => ys[i]?)) :=
  ⟨fun i _ hi q => ⟨xs, ys, xs[i], ys[i], q.1, q.2, by simp [hi], by simp [← hl, hi]⟩, fun _ q => ⟨xs, ys, q.1, q.2, Nat.le_refl _, by omega⟩, fun _ _ _ _ _ q y => by
    obtain ⟨T, x, y, e1, e2, e3, h1, h2⟩ := y
    exact ⟨T, x, y, e1, e2, e3, h1 xs q.1, h2 ys q.2⟩⟩
theorem gi_zipS {ds es : List PyData} (hs : Ga Γ (tCons ta (tCons tb tNil)) [tD K (.tuple ds), tD K (.tuple es)]) (hl : ds.length = es.length) : Gi Γ (iZipS K (tCons ta (tCons tb tNil)) (tCons (tC (.bl true)) tNil)) ds.length (fun i => tD K (.tuple [ds.getD i .none, es.getD i .none])) := fun σ H R s q =>
  hs σ H _ s fun vs H1 e1 hv => by
    obtain ⟨x, y, rfl, hx, hy⟩ := hv.two
    obtain ⟨a, xs, rfl, h1, h2⟩ := Du.tup_inv hx
    obtain ⟨b, ys, rfl, h3, h4⟩ := Du.tup_inv hy
    have l1 := h2.len
    have l2 := h4.len
    have w' : Walk (ItzS K a b) ds.length _ _ := l1 ▸ walk_zipS (K := K) (a := a) (b := b) (xs := xs) (ys := ys) (by omega)
    refine ⟨a, b, xs, ys, rfl, rfl, h1, h3, q _ H1 _ e1 (fun H' i => ⟨im_t i h1, im_t i h3⟩) (walk_to w' fun i H' z H'' hi yy => ?_)⟩
    obtain ⟨Tp, x1, x2, ex, n1, eH, g1, g2⟩ := yy
    subst eH
    refine ⟨same_new n1, fun _ im => ?_⟩
    obtain ⟨d1, hd1, hdu1⟩ := h2.get' g1
    obtain ⟨d2, hd2, hdu2⟩ := h4.get' g2
    have e1' : ds.getD i .none = d1 := by rw [List.getD_eq_getElem?_getD, hd1]; rfl
    have e2' : es.getD i .none = d2 := by rw [List.getD_eq_getElem?_getD, hd2]; rfl
    dsimp only
    rw [e1', e2', ex]
    exact .tup (SqT.of upd_same) (.cons (hdu1.im (im.trans (.of (same_new n1)))) (.cons (hdu2.im (im.trans (.of (same_new n1)))) .nil))
theorem wipe2 {σ : L2.St} {j k : Nat} {x y : V} : wipe (((wipe σ [j, k]).set j (some x)).set k (some y)) [j, k] = wipe σ [j, k] := by
  show (((((σ.set k none).set j none).set j (some x)).set k (some y)).set k none).set j none = (σ.set k none).set j none
  apply List.ext_getElem?
  intro m
  simp only [List.getElem?_set, List.length_set]
  by_cases h1 : j = m
  · simp [h1]
  · by_cases h2 : k = m
    · simp [h1, h2]
    · simp [h1, h2]
/-- all([.. for x, y in ..]), each true -/
theorem gv_allTrue2 {wi : TI} {n j k : Nat} {a b : Nat → PyData} (hi : Gi Γ wi n (fun i => tD K (.tuple [a i, b i]))) (hz : n ≤ 1000) (hjk : j ≠ k)
    (he : ∀ i, i < n → Gv (((((Γ.set k none).set j none).set j (some (tD K (a i)))).set k (some (tD K (b i))))) te (tD K (.bool true))) : Gv Γ (tCB (rAll K) (tCons (tLc wi (gTup K 2 (gCons (gName j) (gCons (gName k) gNil))) tYes te [j, k]) tNil)) (tD K (.bool true)) := by
  have key : Gv Γ (tLc wi (gTup K 2 (gCons (gName j) (gCons (gName k) gNil))) tYes te [j, k]) (tL K ((List.replicate n true).map .bool)) := fun σ H Q s q => hi σ H _ s fun J H1 G e1 hG w Dl hD => by
    refine lc_it w (fun i H' => Same H1 H' ∧ ∃ acc, H' Dl = some (.lst acc) ∧ Dus K H' acc ((List.replicate i true).map .bool)) ⟨same_new hD, [], upd_same, .nil⟩ (fun i H' _ p => hG H' (.of p.1)) (fun i x H' H'' hin p y => ?_) (fun H' p => ?_)
    · obtain ⟨y1, y2⟩ := y
      obtain ⟨p1, acc, p2, p3⟩ := p
      have hx := y2 hG (.of p1)
      obtain ⟨c, xs, ex, h1, h2⟩ := Du.tup_inv hx
      subst ex
      cases h2 with
      | cons hx1 h2 =>
        cases h2 with
        | cons hx2 h2 =>
          cases h2
          refine ⟨c, _, rfl, h1, rfl, _, _, rfl, _, _, rfl, rfl, wipe2, ?_⟩
          have s0 : Sat ((Γ.set k none).set j none) (wipe σ [j, k]) H'' := sat_wipe (s.up ((e1.trans p1).trans y1)) [j, k]
          have s1 := (s0.set (P := tD K (a i)) j hx1).set (P := tD K (b i)) k hx2
          unfold tYes
          refine iteT (he i hin _ _ _ s1 fun v H4 e4 hv => ⟨acc, e4 _ _ (y1 _ _ p2), ?_, ?_, acc ++ [v], upd_same, ?_⟩)
          · have l := p3.len
            simp only [List.length_map, List.length_replicate] at l
            exact small1000 (by omega)
          · exact fun b o e => by
              rw [upd_ne (ne_of_none e hD)]
              exact e4 _ _ (y1 _ _ (p1 _ _ e))
          · have im : Im H4 (upd H4 Dl (.lst (acc ++ [v]))) := .put (e4 _ _ (y1 _ _ p2)) (fun z => z)
            rw [List.replicate_succ', List.map_append]
            exact Dus.append (p3.im ((Im.of (y1.trans e4)).trans im)) (.cons (Du.im im hv) .nil)
    · obtain ⟨p1, acc, p2, p3⟩ := p
      exact q _ H' (e1.trans p1) ⟨Dl, acc, rfl, SqL.of p2, p3⟩
  have z := gv_cb1 key gc_all
  have e : (List.replicate n true).all id = true := by simp
  rw [e] at z
  exact z
end
end RP
set_option maxHeartbeats 4000000
namespace RP
open PySem PySem.Spec PyProof.Rows L2
section
variable {P : Program} {w : World} {K : PySem.W.Frag} {mg : Str → Option Value} {base : Heap} {Γ : Ctx} {ta tb tc td te tf' tg th : TE}
/-! ### what the checkers say of what the search told -/
def dTh : Out → PyData
  | .many => .tuple []
  | .stalls r => dI r
  | .never ws => .tuple ((sortW ws).map dWt)
def isNev : Out → Bool
  | .never _ => true
  | _ => false
def isSta : Out → Bool
  | .stalls _ => true
  | _ => false
structure Nh where
  g : Gu
  out : Out
structure NhOk (i : Nh) : Prop where
  g : GOk i.g
  v : Vch i.g.t i.g.ch
  o : Told i.g.t i.g.o i.g.ch i.g.kd i.out
theorem cut_tail {ds : List PyData} : cutD ds (some 1) none = ds.drop 1 := by
  have z : HT.sIx ds.length 0 (some ((1 : Nat) : Int)) = min 1 ds.length := HT.sIx_nat ..
  unfold cutD
  have z2 : HT.sIx ds.length ds.length none = ds.length := rfl
  have z1 : HT.sIx ds.length 0 (some (1 : Int)) = min 1 ds.length := z
  rw [z1, z2]
  cases ds with
  | nil => rfl
  | cons d ds => simp
theorem cut_init {ds : List PyData} : cutD ds none (some (-1)) = ds.dropLast := by
  unfold cutD
  have z2 : HT.sIx ds.length 0 none = 0 := rfl
  rw [z2]
  have z1 : HT.sIx ds.length ds.length (some (-1)) = ds.length - 1 := by
    unfold HT.sIx
    simp
    omega
  rw [z1, List.dropLast_eq_take]
  simp
abbrev tNh (P : Program) (w : World) (K : PySem.W.Frag) (mg : Str → Option Value) (base : Heap) (i : Nh) : List Ty := [tTalk K i.g.t, tCz P w K mg base i.g.t.N i.g.c, tD K (dKd i.g.kd), tD K (dTh i.out), tD K (.int i.g.o.beg), tD K (.int i.g.o.aga), tD K (.int i.g.o.mst), tD K (.int i.g.o.wai)]
theorem sc_never_holds : FnScope ["talk", "chooser", "kind", "thing", "begin", "again", "most", "wait", "guard", "one", "other", "known", "watch"] ["talk", "chooser", "kind", "thing", "begin", "again", "most", "wait"] (defScope s_never_holds) := ⟨rfl, rfl, rfl, by decide +kernel, rfl, by decide +kernel, by decide +kernel⟩
def spNH (P : Program) (w : World) (K : PySem.W.Frag) (mg : Str → Option Value) (base : Heap) : Sp := spP NhOk (tNh P w K mg base) (fun i => tD K (.bool (isNev i.out)))
theorem ck_never_holds (T : Txt K mg) : CalK P w K mg base "never_holds" 8 4 kwO gApp (spNH P w K mg base) := by
  obtain ⟨fd, F⟩ := T.d_never_holds
  obtain ⟨mv, B⟩ := F.kbinds0 (ps := ["talk", "chooser", "kind", "thing", "begin", "again", "most", "wait"]) 4 kwO [] (fun us _ ws => us ++ ws) (fun h => nomatch h) (fun _ h => nomatch h) (fun r _ q => r.append q)
    (fun D doc pm an cdv ct us mv ws h1 h2 h3 => match us, ws, h1, h3 with | [_, _, _, _], [_, _, _, _], _, _ => rfl)
  refine ⟨_, fd, _, _, ?_, T.g_never_holds, F.kp, B⟩
  refine pure_ok F sc_never_holds (fun _ => rfl) fun cdv A outer s H E i hr c => ⟨_, (pss_cons (ps_set (i := 8) sc_never_holds.nd rfl (Or.inr rfl) (pe_calCK (ck_Guard_init T) hr (by decide) rfl (pa_cons (pv 0) (pa_cons (pv 1) (pa_cons (pv 2) pa_nil))) (pk_cons (pv 4) (pk_cons (pv 5) (pk_cons (pv 6) (pk_cons (pv 7) pk_nil)))))) (pss_cons (ps_if (PW.pt (pw_or (pt_not (pt_val (pe_callB (id := "isinstance") (r := rIsi K) call_isi (by rfl) T.f_isinstance (by decide +kernel) (pa_cons (pv 3) (pa_cons (pe_bltn (v := .ty "tuple") rfl T.f_tuple (by decide +kernel) rfl) pa_nil))))) (pw_or1 (pt_not (pt_val (pe_callB (id := "all") (r := rAll K) (cr_all (by rfl)) (by rfl) T.f_all (by decide +kernel) (pa_cons (pe_lc (own := [("one", 9)]) (g := gName 9) (tt := tYes) (by rfl) sc_never_holds.nd (pi_tup (pv 3)) (blkOk_by (own := [("one", 9)]) (N := ["talk", "chooser", "kind", "thing", "begin", "again", "most", "wait", "guard", "one", "other", "known", "watch"]) (sc := defScope s_never_holds) (by decide +kernel)) (fun _ _ _ _ _ => pg_name (i := 9) sc_never_holds.nd rfl (Or.inl rfl)) (fun _ _ _ _ _ => pts_nil) (fun _ _ _ _ _ => (pe_calM (c_Guard_is_watch (P := P) (w := w) (base := base) T) T.c_Guard hr (by decide) (pv 8) (pa_cons (pv 9) pa_nil)))) pa_nil))))))) (pss_one (ps_ret pe_bl)) pss_nil) (pss_cons (ps_if (pt_not (pt_val (pe_callB (id := "all") (r := rAll K) (cr_all (by rfl)) (by rfl) T.f_all (by decide +kernel) (pa_cons (pe_lc (own := [("one", 9), ("other", 10)]) (g := gTup K 2 (gCons (gName 9) (gCons (gName 10) (gNil)))) (tt := tYes) (by rfl) sc_never_holds.nd (pi_zipS rfl T.f_zip (pa_cons (pe_slice (r := rSlA K) sl_tupA (pv 3) po_none (po_some (pe_un un_neg pe_int))) (pa_cons (pe_slice (r := rSlA K) sl_tupA (pv 3) (po_some pe_int) po_none) pa_nil)) (pk_cons pe_bl pk_nil)) (blkOk_by (own := [("one", 9), ("other", 10)]) (N := ["talk", "chooser", "kind", "thing", "begin", "again", "most", "wait", "guard", "one", "other", "known", "watch"]) (sc := defScope s_never_holds) (by decide +kernel)) (fun _ _ _ _ _ => pg_tup rfl (pgs_cons (pg_name (i := 9) sc_never_holds.nd rfl (Or.inl rfl)) (pgs_cons (pg_name (i := 10) sc_never_holds.nd rfl (Or.inl rfl)) pgs_nil))) (fun _ _ _ _ _ => pts_nil) (fun _ _ _ _ _ => (pe_cmpR (r := rLtD K) (op_ltD hr.units) (pv 9) (pv 10) (nomark _)))) pa_nil)))) (pss_one (ps_ret pe_bl)) pss_nil) (pss_cons (ps_set (i := 11) sc_never_holds.nd rfl (Or.inr rfl) (pe_dcN (own := [("watch", 12)]) (g := gName 12) (tt := tYes) hr.units (by rfl) sc_never_holds.nd (pi_tup (pv 3)) (blkOk_by (own := [("watch", 12)]) (N := ["talk", "chooser", "kind", "thing", "begin", "again", "most", "wait", "guard", "one", "other", "known", "watch"]) (sc := defScope s_never_holds) (by decide +kernel)) (fun _ _ _ _ _ => pg_name (i := 12) sc_never_holds.nd rfl (Or.inl rfl)) (fun _ _ _ _ _ => pts_nil) (fun _ _ _ _ _ => (pv 12)) (fun _ _ _ _ _ => pe_bl))) (pss_one (ps_ret (pe_and (pe_cmpR (r := rInN P w K false) (op_in_nd hr.units) (pe_calM0 (c_Guard_first_watch T) T.c_Guard hr (by decide) (pv 8)) (pv 11) (by with_unfolding_all rfl)) (pe_one (pe_callB (id := "all") (r := rAll K) (cr_all (by rfl)) (by rfl) T.f_all (by decide +kernel) (pa_cons (pe_lc (own := [("watch", 12)]) (g := gName 12) (tt := tYes) (by rfl) sc_never_holds.nd (pi_tup (pv 3)) (blkOk_by (own := [("watch", 12)]) (N := ["talk", "chooser", "kind", "thing", "begin", "again", "most", "wait", "guard", "one", "other", "known", "watch"]) (sc := defScope s_never_holds) (by decide +kernel)) (fun _ _ _ _ _ => pg_name (i := 12) sc_never_holds.nd rfl (Or.inl rfl)) (fun _ _ _ _ _ => pts_nil) (fun _ _ _ _ _ => (pe_cal (c_leads_within (P := P) (w := w) (base := base) T) hr (by decide) rfl (pa_cons (pv 8) (pa_cons (pv 12) (pa_cons (pv 11) pa_nil)))))) pa_nil)))))))))), fun M D r nn => ?_⟩
  try dsimp only [Cx.nox, cxOf, ent, List.map, List.length_cons, List.length_nil, List.replicate_succ, List.replicate_zero, List.cons_append, List.nil_append, List.set]
  obtain ⟨g, out⟩ := i
  obtain ⟨(gk : GOk g), (vc : Vch g.t g.ch), (told : Told g.t g.o g.ch g.kd out)⟩ := c
  refine q_set (r_Guard (g := g) (gv_var rfl) (gv_var rfl) (gv_var rfl) (gv_var rfl) (gv_var rfl) (gv_var rfl) (gv_var rfl) gk.t gk.o) ?_
  try dsimp only [List.set]
  have wl : ∀ {ws : List Wt} (i : Nat) (hi : i < ws.length), ((ws.map dWt).getD i .none) = dWt (ws.getD i wtD) := fun {ws} i hi => by
    rw [List.getD_eq_getElem?_getD, List.getElem?_map, List.getElem?_eq_getElem hi, List.getD_eq_getElem?_getD, List.getElem?_eq_getElem hi]
    rfl
  cases out with
  | stalls road =>
    obtain ⟨ent, i, e, v, B, he, hv, hl, er⟩ := told
    have ro := road_ok gk.k B he hv hl
    rw [← er] at ro
    have rl := ro.len
    have rne : road ≠ [] := fun z => by
      obtain ⟨us, v', ws, h1, _⟩ := ro.ws
      rw [z] at h1
      cases us <;> cases h1
    have rpos : 0 < road.length := List.length_pos_iff.mpr rne
    refine q_when (b := true) (Gb.eq (b := !true || !false) (gb_or (gb_not (gb_b (gv_isi (d := dI road) (gv_var rfl) kb_tt))) fun _ => gb_not (gb_b (Gv.eq (gv_cb1 (gv_lc (ds := (List.replicate road.length false).map .bool) (gi_ints (ns := road) (gv_var rfl)) (by simp) (by omega) fun i d hd => ?_) gc_all) ?_))) rfl) (fun _ => go_retD r gv_bl rfl) (fun h => by cases h)
    · rw [List.getElem?_map] at hd
      cases e : (List.replicate road.length false)[i]? with
      | none => rw [e] at hd; cases hd
      | some b =>
        rw [e] at hd
        cases hd
        rw [rep_get e]
        exact r_is_watch (g := g) (h := .int (road.getD i 0)) (gv_var rfl) (gv_var rfl) gk fun x hx => nomatch hx
    · have e : (List.replicate road.length false).all id = false := by
        cases road with
        | nil => exact absurd rfl rne
        | cons a l => rfl
      rw [e]
  | many =>
    refine q_when (b := false) (Gb.eq (b := !true || !true) (gb_or (gb_not (gb_b (gv_isi (d := .tuple []) (gv_var rfl) kb_tt))) fun _ => gb_not (gb_b (gv_allTrue (gi_data (ds := []) (gv_var rfl)) (Nat.zero_le _) fun i hi => absurd hi (Nat.not_lt_zero i)))) rfl) (fun h => by cases h) (fun _ => ?_)
    refine q_when (b := false) (Gb.eq (b := !true) (gb_not (gb_b (gv_allTrue2 (gi_zipS (ds := []) (es := []) (ga_cons (gv_slice (ds := []) (lo := none) (hi := some (-1)) (gv_var rfl) go1_none (go1_some (gv_neg (i := 1) (gv_int (K := K))))) (ga_cons (gv_slice (ds := []) (lo := some 1) (hi := none) (gv_var rfl) (go1_some (gv_int (K := K))) go1_none) ga_nil)) rfl) (Nat.zero_le _) (by decide) fun i hi => absurd hi (Nat.not_lt_zero i)))) rfl) (fun h => by cases h) (fun _ => ?_)
    refine q_set (gv_dcW (ws := []) (gi_tup (ds := []) (T := fun i => tD K (dWt (([] : List Wt).getD i wtD))) (gv_var rfl) (fun i d hd => nomatch hd)) List.nodup_nil (Nat.zero_le _) (by show 12 < 13; decide)) ?_
    try dsimp only [List.set]
    have z := gv_inK (P := P) (w := w) (K := K) (ws := []) (x := wt0 g.o g.ch g.kd) false (ta := tMeth (cGuard K) "first_watch" (spFirstW P w K mg base) [] E0 (tVar 8) tNil) (te := tVar 11) (Γ := [some (tTalk K g.t), some (tCz P w K mg base g.t.N g.c), some (tD K (dKd g.kd)), some (tD K (.tuple [])), some (tD K (.int g.o.beg)), some (tD K (.int g.o.aga)), some (tD K (.int g.o.mst)), some (tD K (.int g.o.wai)), some (tGuard P w K mg base g), none, none, some (tKn P w K []), none]) (r_first_watch (gv_var rfl) gk) (gv_var rfl)
    exact go_retD r (gv_and (b := false) (c := true) z fun h => nomatch h) rfl
  | never ws =>
    obtain ⟨ent, B, ew, cl⟩ := told
    have nd : ws.Nodup := by rw [ew]; exact B.nd
    have nd2 : (sortW ws).Nodup := (sortW_perm ws).nodup_iff.mpr nd
    have lw : (sortW ws).length ≤ 150 := by
      rw [(sortW_perm ws).length_eq, ew]
      unfold keys
      rw [List.length_map]
      exact B.len
    have ok : ∀ x ∈ sortW ws, ∃ (i : Nat) (e : Wt × Option (Wt × Int)), ent[i]? = some e ∧ e.1 = x := fun x hx => by
      rw [sortW_mem, ew] at hx
      obtain ⟨e, he, rfl⟩ := List.mem_map.mp hx
      obtain ⟨i, hi⟩ := List.mem_iff_getElem?.mp he
      exact ⟨i, e, hi, rfl⟩
    have st := sortW_strict nd
    have hM : ∀ x, x ∈ sortW ws ↔ x ∈ keys ent := fun x => by rw [sortW_mem, ew]
    have eT : dTh (.never ws) = .tuple ((sortW ws).map dWt) := rfl
    rw [eT]
    generalize sortW ws = ss at nd2 lw ok st hM ⊢
    have gm : ∀ i, i < ss.length → ss.getD i wtD ∈ ss := fun i hi => getD_mem hi
    refine q_when (b := false) (Gb.eq (b := !true || !true) (gb_or (gb_not (gb_b (gv_isi (d := .tuple (ss.map dWt)) (gv_var rfl) kb_tt))) fun _ => gb_not (gb_b (gv_allTrue (gi_data (ds := ss.map dWt) (gv_var rfl)) (by rw [List.length_map]; omega) fun i hi => ?_))) rfl) (fun h => by cases h) (fun _ => ?_)
    · rw [List.length_map] at hi
      rw [wl i hi]
      obtain ⟨j, e, he, ex⟩ := ok _ (gm i hi)
      refine r_is_watch (g := g) (h := .wt (ss.getD i wtD)) (gv_var rfl) (gv_var rfl) gk fun x hx => ?_
      cases hx
      rw [← ex]
      exact B.ok e (List.mem_of_getElem? he)
    refine q_when (b := false) (Gb.eq (b := !true) (gb_not (gb_b (gv_allTrue2 (gi_zipS (ds := (ss.map dWt).dropLast) (es := (ss.map dWt).drop 1) (ga_cons (Gv.eq (gv_slice (ds := ss.map dWt) (lo := none) (hi := some (-1)) (gv_var rfl) go1_none (go1_some (gv_neg (i := 1) (gv_int (K := K))))) (by rw [cut_init])) (ga_cons (Gv.eq (gv_slice (ds := ss.map dWt) (lo := some 1) (hi := none) (gv_var rfl) (go1_some (gv_int (K := K))) go1_none) (by rw [cut_tail])) ga_nil)) (by simp)) (by simp; omega) (by decide) fun i hi => ?_))) rfl) (fun h => by cases h) (fun _ => ?_)
    · have hi : i + 1 < ss.length := by
        simp at hi
        omega
      have e1 : (ss.map dWt).dropLast.getD i .none = dWt ss[i] := by
        rw [List.getD_eq_getElem?_getD, List.getElem?_dropLast, List.length_map, if_pos (by omega), List.getElem?_map, List.getElem?_eq_getElem (by omega)]
        rfl
      have e2 : ((ss.map dWt).drop 1).getD i .none = dWt ss[i + 1] := by
        rw [List.getD_eq_getElem?_getD, List.getElem?_drop, List.getElem?_map, Nat.add_comm 1 i, List.getElem?_eq_getElem hi]
        rfl
      rw [e1, e2]
      have lt := List.pairwise_iff_getElem.mp st i (i + 1) (by omega) hi (Nat.lt_succ_self i)
      exact Gv.eq (gv_ltD (gv_var rfl) (gv_var rfl) (alike_wt _ _) (fun z => nomatch z) (Nat.le_trans (lay_wt _).p (by decide))) (by rw [lt])
    refine q_set (gv_dcW (ws := ss) ?_ nd2 (by omega) (by show 12 < 13; decide)) ?_
    · have z := gi_tup (K := K) (T := fun i => tD K (dWt (ss.getD i wtD))) (ds := ss.map dWt) (te := tVar 3) (Γ := [some (tTalk K g.t), some (tCz P w K mg base g.t.N g.c), some (tD K (dKd g.kd)), some (tD K (.tuple (ss.map dWt))), some (tD K (.int g.o.beg)), some (tD K (.int g.o.aga)), some (tD K (.int g.o.mst)), some (tD K (.int g.o.wai)), some (tGuard P w K mg base g), none, none, none, none]) (gv_var rfl) (fun i d hd => by
        rw [List.getElem?_map] at hd
        cases q : ss[i]? with
        | none => rw [q] at hd; cases hd
        | some x =>
          rw [q] at hd
          cases hd
          rw [List.getD_eq_getElem?_getD, q]
          rfl)
      rw [List.length_map] at z
      exact z
    try dsimp only [List.set]
    have h0 : wt0 g.o g.ch g.kd ∈ ss := by
      rw [hM]
      exact List.mem_map.mpr ⟨_, List.mem_of_getElem? B.e0, rfl⟩
    have z := gv_inK (P := P) (w := w) (K := K) (ws := ss) (x := wt0 g.o g.ch g.kd) false (ta := tMeth (cGuard K) "first_watch" (spFirstW P w K mg base) [] E0 (tVar 8) tNil) (te := tVar 11) (Γ := [some (tTalk K g.t), some (tCz P w K mg base g.t.N g.c), some (tD K (dKd g.kd)), some (tD K (.tuple (ss.map dWt))), some (tD K (.int g.o.beg)), some (tD K (.int g.o.aga)), some (tD K (.int g.o.mst)), some (tD K (.int g.o.wai)), some (tGuard P w K mg base g), none, none, some (tKn P w K ss), none]) (r_first_watch (gv_var rfl) gk) (gv_var rfl)
    rw [decide_eq_true h0] at z
    refine go_retD r (gv_and (b := true) z fun _ => gv_allTrue (gi_data (ds := ss.map dWt) (gv_var rfl)) (by rw [List.length_map]; omega) fun i hi => ?_) rfl
    rw [List.length_map] at hi
    rw [wl i hi]
    obtain ⟨j, e, he, ex⟩ := ok _ (gm i hi)
    have hj := (List.getElem?_eq_some_iff.mp he).1
    have hb := B.bd j e he
    have bl := B.len
    refine r_leads_within (i := ⟨g, ss.getD i wtD, ss⟩) (gv_var rfl) (gv_var rfl) (gv_var rfl) ⟨gk, ?_, ?_, ?_⟩
    · show WtOk g.t g.o g.kd (ss.getD i wtD)
      rw [← ex]
      exact B.ok e (List.mem_of_getElem? he)
    · show WtB 1000 (ss.getD i wtD)
      rw [← ex]
      exact ⟨Int.le_trans hb.1 (by omega), fun q hq => Int.le_trans (hb.2 q hq) (by omega)⟩
    · show ∀ v ∈ spds g.kd (ss.getD i wtD), _
      rw [← ex]
      intro v hv
      obtain ⟨c1, c2⟩ := cl e (List.mem_of_getElem? he) v hv
      exact ⟨c1, fun y hy => (hM y).mpr (c2 y hy)⟩
end
end RP
set_option maxHeartbeats 4000000
namespace RP
open PySem PySem.Spec PyProof.Rows L2
section
variable {P : Program} {w : World} {K : PySem.W.Frag} {mg : Str → Option Value} {base : Heap} {Γ : Ctx} {ta tb tc td te tf' tg th : TE}
/-- the watches along a road are watches -/
theorem along_ok {t : Tk} {o : Op} {ch : Ch} {kd : Kd} (tk : TOk t) (ok : OOk t o) (vc : Vch t ch) (kk : KOk kd) {us : List Int} {ws : Nat → Wt} (h0 : ws 0 = wt0 o ch kd) (h : ∀ (i : Nat) (u : Int), us[i]? = some u → u ∈ spds kd (ws i) ∧ led t o ch kd (ws i) u = (false, some (ws (i + 1)))) :
    ∀ i, i ≤ us.length → WtOk t o kd (ws i) ∧ WtB i (ws i)
  | 0, _ => by
    rw [h0]
    exact ⟨wt0_ok tk ok vc kk, Int.le_refl _, fun q hq => by cases hq⟩
  | i + 1, hi => by
    obtain ⟨h1, h2⟩ := along_ok tk ok vc kk h0 h i (by omega)
    obtain ⟨h3, h4⟩ := h i us[i] (List.getElem?_eq_getElem (by omega))
    have e : (led t o ch kd (ws i) us[i]).2 = some (ws (i + 1)) := by rw [h4]
    have e : (if over t (beat t o (ws i).s us[i]) then none else some (nxt t o ch kd (ws i) us[i])) = some (ws (i + 1)) := e
    split at e
    · cases e
    · rename_i hno
      have e2 := Option.some.inj e
      rw [← e2]
      have z := nxt_b (T := t) (o := o) (ch := ch) (kd := kd) (v := us[i]) h2 h1.we
      exact ⟨nxt_ok tk ok vc kk h1 h3 hno, Int.le_trans z.1 (by omega), fun q hq => Int.le_trans (z.2 q hq) (by omega)⟩
theorem sc_stalls_holds : FnScope ["talk", "chooser", "kind", "thing", "begin", "again", "most", "wait", "guard", "watch", "number", "speed", "stalled", "behind"] ["talk", "chooser", "kind", "thing", "begin", "again", "most", "wait"] (defScope s_stalls_holds) := ⟨rfl, rfl, rfl, by decide +kernel, rfl, by decide +kernel, by decide +kernel⟩
def spSH (P : Program) (w : World) (K : PySem.W.Frag) (mg : Str → Option Value) (base : Heap) : Sp := spP NhOk (tNh P w K mg base) (fun i => tD K (.bool (isSta i.out)))
theorem ck_stalls_holds (T : Txt K mg) : CalK P w K mg base "stalls_holds" 8 4 kwO gApp (spSH P w K mg base) := by
  obtain ⟨fd, F⟩ := T.d_stalls_holds
  obtain ⟨mv, B⟩ := F.kbinds0 (ps := ["talk", "chooser", "kind", "thing", "begin", "again", "most", "wait"]) 4 kwO [] (fun us _ ws => us ++ ws) (fun h => nomatch h) (fun _ h => nomatch h) (fun r _ q => r.append q)
    (fun D doc pm an cdv ct us mv ws h1 h2 h3 => match us, ws, h1, h3 with | [_, _, _, _], [_, _, _, _], _, _ => rfl)
  refine ⟨_, fd, _, _, ?_, T.g_stalls_holds, F.kp, B⟩
  refine pure_ok F sc_stalls_holds (fun _ => rfl) fun cdv A outer s H E i hr c => ⟨_, (pss_cons (ps_set (i := 8) sc_stalls_holds.nd rfl (Or.inl rfl) (pe_calCK (ck_Guard_init T) hr (by decide) rfl (pa_cons (pv 0) (pa_cons (pv 1) (pa_cons (pv 2) pa_nil))) (pk_cons (pv 4) (pk_cons (pv 5) (pk_cons (pv 6) (pk_cons (pv 7) pk_nil)))))) (pss_cons (ps_if (pt_not (pt_val (pe_cal (c_is_of_kind T) hr (by decide) rfl (pa_cons (pv 2) (pa_cons (pv 3) pa_nil))))) (pss_one (ps_ret pe_bl)) pss_nil) (pss_cons (ps_set (i := 9) sc_stalls_holds.nd rfl (Or.inl rfl) (pe_calM0 (c_Guard_first_watch T) T.c_Guard hr (by decide) (pv 8))) (pss_cons (ps_for PassesOwn.never rfl (pi_enumT (by rfl) T.f_enumerate (pa_cons (pv 3) pa_nil)) (pg_tup rfl (pgs_cons (pg_name (i := 10) sc_stalls_holds.nd rfl (Or.inl rfl)) (pgs_cons (pg_name (i := 11) sc_stalls_holds.nd rfl (Or.inl rfl)) pgs_nil))) (pss_cons (ps_asg (pe_calM (c_Guard_led T) T.c_Guard hr (by decide) (pv 8) (pa_cons (pv 9) (pa_cons (pv 11) pa_nil))) (pg_tup rfl (pgs_cons (pg_name (i := 12) sc_stalls_holds.nd rfl (Or.inl rfl)) (pgs_cons (pg_name (i := 13) sc_stalls_holds.nd rfl (Or.inl rfl)) pgs_nil)))) (pss_cons (ps_if (pt_val (pv 12)) (pss_one (ps_ret (pe_cmpR op_eq (pv 10) (pe_op op_sub (pe_callB (id := "len") (r := rLn K) call_len_seq (by rfl) T.f_len (by decide +kernel) (pa_cons (pv 3) pa_nil)) pe_int) (nomark _)))) pss_nil) (pss_cons (ps_if (pt_cmpR op_isN (pv 13) pe_non (nomark _)) (pss_one (ps_ret pe_bl)) pss_nil) (pss_one (ps_set (i := 9) sc_stalls_holds.nd rfl (Or.inl rfl) (pv 13))))))) (pss_one (ps_ret pe_bl)))))), fun M D r nn => ?_⟩
  try dsimp only [Cx.nox, cxOf, ent, List.map, List.length_cons, List.length_nil, List.replicate_succ, List.replicate_zero, List.cons_append, List.nil_append, List.set]
  obtain ⟨g, out⟩ := i
  obtain ⟨(gk : GOk g), (vc : Vch g.t g.ch), (told : Told g.t g.o g.ch g.kd out)⟩ := c
  refine q_set (r_Guard (g := g) (gv_var rfl) (gv_var rfl) (gv_var rfl) (gv_var rfl) (gv_var rfl) (gv_var rfl) (gv_var rfl) gk.t gk.o) ?_
  try dsimp only [List.set]
  cases out with
  | many =>
    refine q_when (b := false) (gb_not (b := true) (gb_b (r_is_of_kind (kd := g.kd) (h := .road []) (gv_var rfl) (gv_var rfl) ⟨gk.k, (⟨fun v h => (nomatch h), fun k => by
      have := gk.k.m0
      simpa using this, Nat.zero_le _⟩ : (∀ v ∈ ([] : List Int), v = g.kd.slow ∨ v = g.kd.fast) ∧ Wn g.kd.many g.kd.wide (([] : List Int).map (bit g.kd)) ∧ ([] : List Int).length ≤ 1000)⟩))) (fun h => nomatch h) (fun _ => ?_)
    refine q_set (r_first_watch (gv_var rfl) gk) ?_
    try dsimp only [List.set]
    refine q_for (n := 0) (T := fun i => tD K (.tuple [.int (i : Nat), .int 0])) (gi_enum (ds := []) (ga_cons (gv_var rfl) ga_nil) (fun i d hd => nomatch hd)) (fun _ => [some (tTalk K g.t), some (tCz P w K mg base g.t.N g.c), some (tD K (dKd g.kd)), some (tD K (dTh .many)), some (tD K (.int g.o.beg)), some (tD K (.int g.o.aga)), some (tD K (.int g.o.mst)), some (tD K (.int g.o.wai)), some (tGuard P w K mg base g), none, none, none, none, none]) (fun σ H s => s.wk (.keep (.keep (.keep (.keep (.keep (.keep (.keep (.keep (.keep (.any (.any (.any (.any (.any .nil))))))))))))))) (fun i hi => absurd hi (Nat.not_lt_zero i)) ?_
    exact go_retD r gv_bl rfl
  | never ws =>
    obtain ⟨ent, B, ew, cl⟩ := told
    have lw : (sortW ws).length ≤ 150 := by
      rw [(sortW_perm ws).length_eq, ew]
      unfold keys
      rw [List.length_map]
      exact B.len
    have l0 : sortW ws ≠ [] := fun z => by
      have h0 : wt0 g.o g.ch g.kd ∈ sortW ws := by
        rw [sortW_mem, ew]
        exact List.mem_map.mpr ⟨_, List.mem_of_getElem? B.e0, rfl⟩
      rw [z] at h0
      cases h0
    exact q_when (b := true) (gb_not (b := false) (gb_b (r_is_of_kind (kd := g.kd) (h := .wts (sortW ws)) (gv_var rfl) (gv_var rfl) ⟨gk.k, l0, by omega⟩))) (fun _ => go_retD r gv_bl rfl) (fun h => nomatch h)
  | stalls road =>
    obtain ⟨ent, i, e, v, B, he, hv, hl, er⟩ := told
    have ro := road_ok gk.k B he hv hl
    rw [← er] at ro
    have rl := ro.len
    obtain ⟨us, u, ws, h1, h2, h3, h4, h5⟩ := ro.ws
    have al := along_ok gk.t gk.o vc gk.k h2 h3
    have lr : road.length = us.length + 1 := by rw [h1, List.length_append]; rfl
    refine q_when (b := false) (gb_not (b := true) (gb_b (r_is_of_kind (kd := g.kd) (h := .road road) (gv_var rfl) (gv_var rfl) ⟨gk.k, ro.sf, ro.wn, by omega⟩))) (fun h => nomatch h) (fun _ => ?_)
    refine q_set (r_first_watch (gv_var rfl) gk) ?_
    try dsimp only [List.set]
    refine q_for (n := (road.map PyData.int).length) (T := fun i => tD K (.tuple [.int (i : Nat), .int (road.getD i 0)])) (gi_enum (ds := road.map .int) (ga_cons (gv_var rfl) ga_nil) (fun i d hd => ?_)) (fun i => [some (tTalk K g.t), some (tCz P w K mg base g.t.N g.c), some (tD K (dKd g.kd)), some (tD K (dI road)), some (tD K (.int g.o.beg)), some (tD K (.int g.o.aga)), some (tD K (.int g.o.mst)), some (tD K (.int g.o.wai)), some (tGuard P w K mg base g), some (tE (fun _ : Unit => i ≤ us.length) fun _ => tD K (dWt (ws i))), none, none, none, none]) (fun σ H s => s.wk (.keep (.keep (.keep (.keep (.keep (.keep (.keep (.keep (.keep (.to (fun v H h => ⟨(), Nat.zero_le _, by rw [h2]; exact h⟩) (.any (.any (.any (.any .nil)))))))))))))))
      (fun i hi M' nx hM hnx => ⟨_, gt_tup (ds := [.int (i : Nat), .int (road.getD i 0)]) (gts_cons gt_name (gts_cons gt_name gts_nil)) rfl, ?_⟩) ?_
    · rw [List.getElem?_map] at hd
      cases q : road[i]? with
      | none => rw [q] at hd; cases hd
      | some z =>
        rw [q] at hd
        cases hd
        rw [List.getD_eq_getElem?_getD, q]
        rfl
    · try dsimp only [List.set]
      refine go_open (i := 9) rfl fun _ hle => ?_
      try dsimp only [List.set]
      obtain ⟨wk, wb⟩ := al i hle
      have wb2 : WtB 1000 (ws i) := ⟨Int.le_trans wb.1 (by omega), fun q hq => Int.le_trans (wb.2 q hq) (by omega)⟩
      rcases Nat.lt_or_eq_of_le hle with hlt | heq
      · have eg : road.getD i 0 = us[i] := by
          rw [List.getD_eq_getElem?_getD, h1, List.getElem?_append_left hlt, List.getElem?_eq_getElem hlt]
          rfl
        obtain ⟨p1, p2⟩ := h3 i us[i] (List.getElem?_eq_getElem hlt)
        rw [eg]
        refine q_asg (r_led (g := g) (x := ws i) (v := us[i]) (gv_var rfl) (gv_var rfl) (gv_var rfl) gk wk wb2 (spds_pos gk.k p1).1) (gt_tup (ds := [.bool (RP.led g.t g.o g.ch g.kd (ws i) us[i]).1, dOW (RP.led g.t g.o g.ch g.kd (ws i) us[i]).2]) (gts_cons gt_name (gts_cons gt_name gts_nil)) rfl) ?_
        rw [p2]
        try dsimp only [List.set]
        refine q_when (b := false) (gb_val (gv_var rfl)) (fun h => nomatch h) (fun _ => ?_)
        refine q_when (b := false) (gb_val (gv_isN (d := dWt (ws (i + 1))) rfl (gv_var rfl) gv_non)) (fun h => nomatch h) (fun _ => ?_)
        exact go_set (gv_var rfl) (hnx.wk (.keep (.keep (.keep (.keep (.keep (.keep (.keep (.keep (.keep (.to (fun v H h => ⟨(), hlt, h⟩) (.any (.any (.any (.any .nil)))))))))))))))
      · have eg : road.getD i 0 = u := by
          rw [List.getD_eq_getElem?_getD, h1, heq, List.getElem?_append_right (Nat.le_refl _), Nat.sub_self]
          rfl
        rw [eg]
        rw [heq] at wk wb2 ⊢
        refine q_asg (r_led (g := g) (x := ws us.length) (v := u) (gv_var rfl) (gv_var rfl) (gv_var rfl) gk wk wb2 (spds_pos gk.k h4).1) (gt_tup (ds := [.bool (RP.led g.t g.o g.ch g.kd (ws us.length) u).1, dOW (RP.led g.t g.o g.ch g.kd (ws us.length) u).2]) (gts_cons gt_name (gts_cons gt_name gts_nil)) rfl) ?_
        rw [h5]
        try dsimp only [List.set]
        refine q_when (b := true) (gb_val (gv_var rfl)) (fun _ => ?_) (fun h => nomatch h)
        refine go_retD (r.le hM) (gv_eqI (gv_var rfl) (gv_i0 (gv_cb1 (gv_var rfl) (gc_len (ds := road.map .int))) gv_int)) ?_
        have e : ((us.length : Nat) : Int) = (((road.map PyData.int).length : Nat) : Int) - 1 := by rw [List.length_map, lr]; omega
        rw [decide_eq_true e]
        rfl
    · refine go_open (i := 9) rfl fun _ hle => ?_
      rw [List.length_map] at hle
      omega
end
end RP
set_option maxHeartbeats 4000000
namespace RP
open PySem PySem.Spec PyProof.Rows L2
/-! ### the law's rules -/
def gRule (s : Sn) : PyData := match s.r, s.l with
  | some r, some q => .int ([s.k.fdiv 4, r + 1, (q.1.fdiv q.2).fdiv 3, 3 - r, q.2.fmod 3].getD (s.n % 5) 0)
  | _, _ => .int ((s.n : Int) + 1)
def gOdd (s : Sn) : PyData := [.none, .bool true, .int (-1), .int 99, .str "0", .tuple [.int 0]].getD (s.n % 6) .none
def gTell (pl : List Int) (s : Sn) : PyData := .int (pl.getD s.n 0)
theorem gRule_flat (s : Sn) : flatD (gRule s) = true := by
  unfold gRule
  split <;> rfl
theorem gOdd_flat (s : Sn) : flatD (gOdd s) = true := by
  unfold gOdd
  have h : s.n % 6 < 6 := Nat.mod_lt _ (by decide)
  generalize s.n % 6 = m at h
  match m, h with
  | 0, _ => rfl
  | 1, _ => rfl
  | 2, _ => rfl
  | 3, _ => rfl
  | 4, _ => rfl
  | 5, _ => rfl
theorem gTell_flat (pl : List Int) (s : Sn) : flatD (gTell pl s) = true := rfl
section
variable {t : Tk}
theorem ofD_ok (tk : TOk t) (d : PyData) : 0 ≤ ofD t d ∧ ofD t d < t.W := by
  have h := tk.w1
  unfold ofD
  split
  · split
    · assumption
    · omega
  · omega
theorem vch_fn (tk : TOk t) (g : Sn → PyData) : Vch t (chOf t (.fn g)) := fun n k r l _ => ofD_ok tk _
theorem vch_plan {pl : List Int} (hl : pl.length = t.N) (h : ∀ r ∈ pl, 0 ≤ r ∧ r < t.W) : Vch t (chOf t (.plan pl)) := fun n k r l hn => by
  show 0 ≤ pl.getD n 0 ∧ pl.getD n 0 < t.W
  exact h _ (getD_mem (by omega))
theorem chOf_plan (pl : List Int) : chOf t (.plan pl) = planCh pl := rfl
theorem chOf_odd (tk : TOk t) : chOf t (.fn gOdd) = zeroCh := by
  funext n k r l
  show ofD t (gOdd ⟨n, k, r, l⟩) = 0
  have w := tk.w1
  unfold gOdd
  have h : n % 6 < 6 := Nat.mod_lt _ (by decide)
  show ofD t ([.none, .bool true, .int (-1), .int 99, .str "0", .tuple [.int 0]].getD (n % 6) .none) = 0
  generalize n % 6 = m at h
  match m, h with
  | 0, _ => rfl
  | 1, _ => rfl
  | 2, _ => rfl
  | 3, _ =>
    show (if (0 : Int) ≤ 99 ∧ (99 : Int) < t.W then (99 : Int) else 0) = 0
    rw [if_neg (by omega)]
  | 4, _ => rfl
  | 5, _ => rfl
/-- a rule that tells a plan of rates: the plan's choices at every stretch that is -/
theorem chOf_tell {pl : List Int} (hl : pl.length = t.N) (h : ∀ r ∈ pl, 0 ≤ r ∧ r < t.W) : chOf t (.fn (gTell pl)) = chOf t (.plan pl) := by
  funext n k r l
  show ofD t (.int (pl.getD n 0)) = pl.getD n 0
  by_cases hn : n < pl.length
  · exact if_pos (h _ (getD_mem hn))
  · have e : pl.getD n 0 = 0 := by rw [List.getD_eq_getElem?_getD, List.getElem?_eq_none (by omega)]; rfl
    rw [e]
    show (if (0 : Int) ≤ 0 ∧ (0 : Int) < t.W then (0 : Int) else 0) = 0
    split <;> rfl
end
section
variable {P : Program} {w : World} {K : PySem.W.Frag} {mg : Str → Option Value} {base : Heap} {Γ : Ctx} {ta tb tc td te tf' tg th : TE}
theorem gv_isNS {r : R2} (hr : r = fun x y H Q => y = .non ∧ Q (.bl (decide (x = .non))) H := by rfl) {q : Option (Int × Int)} (ha : Gv Γ ta (tSp K q)) (hb : Gv Γ tb (tD K .none)) : Gv Γ (tOp r ta tb) (tD K (.bool q.isNone)) := gv_op ha hb fun x y H Q hx hy k => by
  subst hr
  refine ⟨Du.non_inv hy, k _ H (.refl H) ?_⟩
  cases q with
  | none =>
    rw [Du.non_inv hx]
    exact .bl _
  | some q =>
    obtain ⟨a, _, _, e, _⟩ := hx
    subst e
    exact .bl _
theorem sc_law_rule : FnScope ["_law_seen", "_law_number", "_law_held", "_law_rate", "_law_speed"] ["_law_seen"] (defScope s_law_rule) := ⟨rfl, rfl, rfl, by decide +kernel, rfl, by decide +kernel, by decide +kernel⟩
theorem c_law_rule (T : Txt K mg) (H0 : Hp) : Clb P w K mg base 3 (He.ga K "_law_rule") (spCh K 6 gRule) H0 := by
  obtain ⟨fd, F⟩ := T.d_law_rule
  obtain ⟨ob, ho, hcl⟩ := fnB_ok T.ex.rule
  have F1 : FnOk P w K mg base CX0 2 (He.ga K "_law_rule") fd ["_law_seen"] (spCh K 6 gRule) := ?_
  · exact clb_of F (F1.mono (by decide)) (F.bindsN (fun _ _ _ _ _ _ us hl => match us, hl with | [_], _ => rfl)) (fun o e => by have e2 := ho.symm.trans e; cases e2; exact hcl) H0
  refine pure_ok F sc_law_rule (fun _ => rfl) fun cdv A outer s H E sn hr c => ⟨_, (pss_cons (ps_asg (pv 0) (pg_tup rfl (pgs_cons (pg_name (i := 1) sc_law_rule.nd rfl (Or.inl rfl)) (pgs_cons (pg_name (i := 2) sc_law_rule.nd rfl (Or.inl rfl)) (pgs_cons (pg_name (i := 3) sc_law_rule.nd rfl (Or.inl rfl)) (pgs_cons (pg_name (i := 4) sc_law_rule.nd rfl (Or.inl rfl)) pgs_nil)))))) (pss_cons (ps_if (PW.pt (pw_or (pt_cmpR op_isN (pv 3) pe_non (nomark _)) (pw_or1 (pt_cmpR op_isN (pv 4) pe_non (nomark _))))) (pss_one (ps_ret (pe_op op_add (pv 1) pe_int))) pss_nil) (pss_one (ps_ret (pe_ix (r := rIxL K) ix_list (pe_lst (pa_cons (pe_op op_fdivN (pv 2) pe_int) (pa_cons (pe_op op_add (pv 3) pe_int) (pa_cons (pe_op op_fdivN (pe_calM0 (c_Speed_floor T) T.c_Speed hr (by decide) (pv 4)) pe_int) (pa_cons (pe_op op_sub pe_int (pv 3)) (pa_cons (pe_op op_modN (pe_fld (pv 4) rfl) pe_int) pa_nil)))))) (pe_op op_modN (pv 1) pe_int) (fun _ _ => rfl)))))), fun M D r nn => ?_⟩
  try dsimp only [Cx.nox, cxOf, ent, List.map, List.length_cons, List.length_nil, List.replicate_succ, List.replicate_zero, List.cons_append, List.nil_append, List.set]
  obtain ⟨n, k, ra, l⟩ := sn
  have so : SnOk 6 ⟨n, k, ra, l⟩ := c
  refine q_asg (gv_var rfl) (gt_tupT (Ps := snTy K ⟨n, k, ra, l⟩) (gts_cons gt_name (gts_cons gt_name (gts_cons gt_name (gts_cons gt_name gts_nil)))) rfl) ?_
  try dsimp only [List.set]
  cases ra with
  | none => exact q_when (b := true) (gb_or (b := true) (c := true) (gb_val (gv_isN (d := .none) rfl (gv_var rfl) gv_non)) fun h => nomatch h) (fun _ => go_retD r (gv_i0 (gv_var rfl) gv_int) rfl) (fun h => nomatch h)
  | some ra =>
    cases l with
    | none => exact q_when (b := true) (gb_or (b := false) (c := true) (gb_val (gv_isN (d := .int ra) rfl (gv_var rfl) gv_non)) fun _ => gb_val (gv_isNS (q := none) rfl (gv_var rfl) gv_non)) (fun _ => go_retD r (gv_i0 (gv_var rfl) gv_int) rfl) (fun h => nomatch h)
    | some q =>
      have hq : SpOk q := so.l q rfl
      have hq1 := hq.1
      have hq2 := hq.2
      refine q_when (b := false) (gb_or (b := false) (c := false) (gb_val (gv_isN (d := .int ra) rfl (gv_var rfl) gv_non)) fun _ => gb_val (gv_isNS (q := some q) rfl (gv_var rfl) gv_non)) (fun h => nomatch h) (fun _ => ?_)
      have em : (n : Int).fmod 5 = ((n % 5 : Nat) : Int) := by
        rw [Int.fmod_eq_emod_of_nonneg _ (by decide)]
        rfl
      have n6 : n < 6 := so.n
      have h5 : n % 5 < 5 := Nat.mod_lt _ (by decide)
      refine go_retD r (gv_ixL (ds := [.int (k.fdiv 4), .int (ra + 1), .int ((q.1.fdiv q.2).fdiv 3), .int (3 - ra), .int (q.2.fmod 3)]) (i := ((n % 5 : Nat) : Int)) (d := [.int (k.fdiv 4), .int (ra + 1), .int ((q.1.fdiv q.2).fdiv 3), .int (3 - ra), .int (q.2.fmod 3)].getD (n % 5) .none) (gv_lstd (gd_cons (gv_i1 (gv_var rfl) gv_int ⟨by decide, by decide⟩) (gd_cons (gv_i0 (gv_var rfl) gv_int) (gd_cons (gv_i1 (r_floor (q := q) hq (gv_var rfl)) gv_int ⟨by decide, by decide⟩) (gd_cons (gv_i0 gv_int (gv_var rfl)) (gd_cons (gv_i1 (gv_Speed_beats T (q := q) (gv_var rfl)) gv_int (by decide)) gd_nil))))) rfl) (Gv.eq (gv_i1 (gv_var rfl) gv_int (by decide)) (by rw [em])) (atI_nat ?_)) ?_
      · generalize n % 5 = m at h5
        match m, h5 with
        | 0, _ => rfl
        | 1, _ => rfl
        | 2, _ => rfl
        | 3, _ => rfl
        | 4, _ => rfl
      · show _ = PyData.int ([k.fdiv 4, ra + 1, (q.1.fdiv q.2).fdiv 3, 3 - ra, q.2.fmod 3].getD (n % 5) 0)
        generalize n % 5 = m at h5
        match m, h5 with
        | 0, _ => rfl
        | 1, _ => rfl
        | 2, _ => rfl
        | 3, _ => rfl
        | 4, _ => rfl
theorem sc_law_odd : FnScope ["_law_seen"] ["_law_seen"] (defScope s_law_odd) := ⟨rfl, rfl, rfl, by decide +kernel, rfl, by decide +kernel, by decide +kernel⟩
theorem c_law_odd (T : Txt K mg) (H0 : Hp) : Clb P w K mg base 3 (He.ga K "_law_odd") (spCh K 6 gOdd) H0 := by
  obtain ⟨fd, F⟩ := T.d_law_odd
  obtain ⟨ob, ho, hcl⟩ := fnB_ok T.ex.odd
  have F1 : FnOk P w K mg base CX0 1 (He.ga K "_law_odd") fd ["_law_seen"] (spCh K 6 gOdd) := ?_
  · exact clb_of F (F1.mono (by decide)) (F.bindsN (fun _ _ _ _ _ _ us hl => match us, hl with | [_], _ => rfl)) (fun o e => by have e2 := ho.symm.trans e; cases e2; exact hcl) H0
  refine pure_ok F sc_law_odd (fun _ => rfl) fun cdv A outer s H E sn hr c => ⟨_, (pss_one (ps_ret (pe_ix (r := rIxL K) ix_list (pe_lst (pa_cons pe_non (pa_cons pe_bl (pa_cons (pe_un un_neg pe_int) (pa_cons pe_int (pa_cons pe_str (pa_cons (pe_tup (pa_cons pe_int pa_nil)) pa_nil))))))) (pe_op op_modN (pe_ix (r := rIxT K) ix_tup (pv 0) pe_int (fun _ _ => rfl)) pe_int) (fun _ _ => rfl)))), fun M D r nn => ?_⟩
  try dsimp only [Cx.nox, cxOf, ent, List.map, List.length_cons, List.length_nil, List.replicate_succ, List.replicate_zero, List.cons_append, List.nil_append, List.set]
  obtain ⟨n, k, ra, l⟩ := sn
  have em : (n : Int).fmod 6 = ((n % 6 : Nat) : Int) := by
    rw [Int.fmod_eq_emod_of_nonneg _ (by decide)]
    rfl
  have h6 : n % 6 < 6 := Nat.mod_lt _ (by decide)
  refine go_retD r (gv_ixL (ds := [.none, .bool true, .int (-1), .int 99, .str "0", .tuple [.int 0]]) (i := ((n % 6 : Nat) : Int)) (d := [.none, .bool true, .int (-1), .int 99, .str "0", .tuple [.int 0]].getD (n % 6) .none) (gv_lstd (gd_cons gv_non (gd_cons gv_bl (gd_cons (gv_neg (i := 1) gv_int) (gd_cons gv_int (gd_cons gv_str (gd_cons (gv_tupd (gd_cons gv_int gd_nil) rfl) gd_nil)))))) rfl) (Gv.eq (gv_i1 (gv_ixT (Ps := snTy K ⟨n, k, ra, l⟩) (j := 0) (gv_var rfl) gv_int rfl rfl) gv_int (by decide)) (by rw [em])) (atI_nat ?_)) rfl
  generalize n % 6 = m at h6
  match m, h6 with
  | 0, _ => rfl
  | 1, _ => rfl
  | 2, _ => rfl
  | 3, _ => rfl
  | 4, _ => rfl
  | 5, _ => rfl
/-- the rules as values -/
theorem tF_less {k : Nat} {N : Nat} {g : Sn → PyData} {v : V} {H : Hp} (hN : N ≤ 6) (h : (tF P w K mg base k (spCh K 6 g)).p v H) : (tF P w K mg base k (spCh K N g)).p v H := by
  obtain ⟨f, e, c⟩ := h
  exact ⟨f, e, c.fn, fun A outer s H1 us vs Q e1 hr e0 r ⟨sn, c1, h1, h2⟩ => c.run A outer s H1 us vs Q e1 hr e0 r ⟨sn, ⟨by have := c1.n; omega, c1.l⟩, h1, h2⟩⟩
theorem cz_rule (T : Txt K mg) {N : Nat} (hN : N ≤ 6) (H : Hp) : (tCz P w K mg base N (.fn gRule)).p (.ref (He.ga K "_law_rule")) H := by
  exact tF_less hN ⟨_, rfl, c_law_rule T H⟩
theorem cz_odd (T : Txt K mg) {N : Nat} (hN : N ≤ 6) (H : Hp) : (tCz P w K mg base N (.fn gOdd)).p (.ref (He.ga K "_law_odd")) H := by
  exact tF_less hN ⟨_, rfl, c_law_odd T H⟩
end
end RP
set_option maxHeartbeats 4000000
namespace RP
open PySem PySem.Spec PyProof.Rows L2
/-! ### the rule that tells a plan -/
abbrev s_told : Stmt := (defBody s_law_telling).headD (.Pass ⟨0, 0, 0, 0⟩)
def tpos : Pos := match s_told with
  | .FunctionDef (pos := p) .. => p
  | _ => ⟨0, 0, 0, 0⟩
def tellQ : Str := "_law_telling.<locals>."
abbrev tdn : He.Defn := ("_law_telling", none)
abbrev T0 (K : PySem.W.Frag) : List NdefX.NTab := [((He.cT K tdn).2, fun _ _ => tellQ ++ "_law_told")]
abbrev fTold (c c' : Addr) : NdefX.NF := NdefX.NF.of s_told "_law_told" (tellQ ++ "_law_told") [("_law_plan", c)] c'
section
variable {P : Program} {w : World} {K : PySem.W.Frag} {mg : Str → Option Value} {base : Heap} {Γ : Ctx} {ta tb tc td te tf' tg th : TE}
def spTold1 (K : PySem.W.Frag) : List (Option V) → Sp := fun ws vs H Q _ => ∃ (pl : List Int) (sn : Sn) (x : V), ws = [some x] ∧ Du K H x (dI pl) ∧ sn.n < pl.length ∧ Pv H [tSn K sn] vs ∧ ∀ v H', Same H H' → Du K H' v (gTell pl sn) → Q v H'
theorem sc_told : NdefX.NScope ["_law_seen", "_law_plan"] ["_law_seen"] ["_law_plan"] (C8.fnScope s_told) := NdefX.nscope_by (by decide +kernel)
theorem n_told (f c c' : Addr) : NdefX.NOk P w K mg base CX0 1 f (fTold c c') ["_law_seen"] ["_law_plan"] (spTold1 K) := by
  refine NdefX.nok_of sc_told (fun doc pm ctv us hl => match us, hl with | [_], _ => rfl) (fun ws vs H Q E ⟨pl, sn, x, _, _, _, h, _⟩ => h.len) fun A outer s H vs ws Q E hr hf hc hl ⟨pl, sn, x, ew, hx, hn, h, q⟩ => ?_
  subst ew
  refine ⟨_, pss_one (ps_ret (pe_ix (r := rIxT K) ix_tup (pv 1) (pe_ix (r := rIxT K) ix_tup (pv 0) pe_int (fun _ _ => rfl)) (fun _ _ => rfl))), ?_⟩
  obtain ⟨v, rfl, hv⟩ := h.one
  have s0 : Sat [some (tSn K sn), some (tD K (dI pl))] (NdefX.startF ["_law_seen", "_law_plan"] [v] [some x]) H := by
    refine ⟨rfl, fun i R hi => ?_⟩
    match i, hi with
    | 0, hi =>
      cases hi
      exact ⟨v, rfl, hv⟩
    | 1, hi =>
      cases hi
      exact ⟨x, rfl, hx⟩
    | i + 2, hi => simp at hi
  refine go_run (M := Hm.of H) ?_ (Same.refl H) s0
  have hg : pl[sn.n]? = some (pl.getD sn.n 0) := by
    rw [List.getD_eq_getElem?_getD, List.getElem?_eq_getElem hn]
    rfl
  exact go_retD (d' := gTell pl sn) (fun v' H' m r => q v' H' m r) (gv_ixI (ns := pl) (j := sn.n) (gv_var rfl) (gv_ixT (Ps := snTy K sn) (j := 0) (gv_var rfl) gv_int rfl rfl) rfl hg) rfl
theorem tSn_dl {sn : Sn} : (tSn K sn).Dl := fun hc h => by
  obtain ⟨a, xs, e, h1, h2⟩ := h
  have hs : (tSp K sn.l).Dl := by
    cases sn.l with
    | none => exact tD_dl
    | some q => exact tO_dl (.cons tD_dl (.cons tD_dl .nil))
  refine ⟨a, xs, e, ?_, pv_dl hc (.cons tD_dl (.cons tD_dl (.cons tD_dl (.cons hs .nil)))) h2⟩
  rcases h1 with (h | ⟨o, h⟩) | h
  · exact .inl (.inl (by rw [del_ne (ne_cell hc h cellO_tup)]; exact h))
  · exact .inl (.inr ⟨o, by rw [del_ne (ne_cell hc h cellO_frz)]; exact h⟩)
  · exact .inr h
theorem clb_told {f c c' a : Addr} {pl : List Int} {H : Hp} (hf : H f = some (NdefX.FnO f (fTold c c'))) (hc : H c' = some (LamX.CodeO c' (tellQ ++ "_law_told"))) (hx : H c = some (CellO c (.ref a))) (hp : Du K H (.ref a) (dI pl)) :
    Clb P w K mg base 1 f (spCh K pl.length (gTell pl)) H := by
  refine clb_cell (F := fTold c c') (y := "_law_plan") (n_told f c c') rfl hf hc hx fun vs H1 Q im hx1 ⟨sn, cs, h, q⟩ => ?_
  refine ⟨pl, sn, .ref a, rfl, Du.dl hx1 (hp.im im), cs.n, pv_dl hx1 (.cons tSn_dl .nil) h, fun v H' e hv hn => ?_⟩
  refine q v _ (fun b o hb => ?_) (Du.im (.of (same_new hn)) hv)
  by_cases z : b = c
  · rw [z, upd_same, ← hx1, ← z]
    exact hb
  · rw [upd_ne z]
    exact e b o (by rw [del_ne z]; exact hb)
/-! ### telling -/
theorem sc_law_telling : FnScope ["_law_plan", "_law_told"] ["_law_plan"] (defScope s_law_telling) := ⟨rfl, rfl, rfl, by decide +kernel, rfl, by decide +kernel, by decide +kernel⟩
def spTelling (P : Program) (w : World) (K : PySem.W.Frag) (mg : Str → Option Value) (base : Heap) : Sp := fun vs H Q _ => ∃ pl : List Int, Pv H [tD K (dI pl)] vs ∧ NdefX.TabsN (T0 K) H ∧
  ∀ v H', LamX.ExtN H H' → NdefX.TabsN (T0 K) H' → (tF P w K mg base 3 (spCh K pl.length (gTell pl))).p v H' → Q v H'
theorem c_law_telling (T : Txt K mg) (TB : LamX.TabB base mg (He.cT K tdn).1 (He.cT K tdn).2) : Cal P w K mg base "_law_telling" 1 [] (spTelling P w K mg base) := by
  obtain ⟨fd, F⟩ := T.d_law_telling
  refine ⟨_, fd, ["_law_plan"], [], ?_, T.g_law_telling, F.kp, F.bindsN (fun _ _ _ _ _ _ us hl => match us, hl with | [_], _ => rfl), .nil⟩
  obtain ⟨oc, od, dV, kV, doc, pm, an, cdv, ct, osl, efd, lk, hcd, _, _⟩ := F.ex
  obtain ⟨cc, rfl⟩ : ∃ cc, cdv = .ref cc := by
    unfold PySem.W.codeIn at hcd
    split at hcd
    · exact ⟨_, rfl⟩
    · cases hcd
  have ecc : (He.cT K tdn).1 = cc := He.codeOf_eq (p := tdn) lk (by rw [efd])
  subst efd
  refine ⟨fun vs H Q E ⟨pl, h, _⟩ => h.len, fun A outer s H args us vs Q E hr e0 hb r ⟨pl, h, hT, q⟩ => ?_⟩
  have hl : vs.length = 1 := h.len
  have KX : K.In s.heap := e0.mod.kin.keeps fun b o e => (e0.bs b o e).1
  have lim : s.heap.NoLimit := e0.mod.nolimit.keeps fun b o e => (e0.bs b o e).1
  have S := sc_law_telling
  have hkind : ∀ y ∈ (["_law_plan"] : List Str).zip us, (defScope s_law_telling).names.lookup y.1 = some .local ∨ ((defScope s_law_telling).names.lookup y.1 = some .cell ∧ ((cellsFrom (s.heap.objs.size + 1) (defScope s_law_telling).names []).lookup y.1).isSome = true) := fun ⟨n, v⟩ hy => by
    rcases S.par n (List.of_mem_zip hy).1 with q | q
    · exact .inl q
    · exact .inr ⟨q, PySem.W.cellsFrom_some _ _ _ (.inl q)⟩
  refine codeAny_call_function hr.depth (KX _ _ lk) rfl S.co S.gen rfl (PySem.W.codeRec_of KX hcd) (hb _ _ _ _ ?_)
  refine wpAny_newFunctionEnv_cells S.kind hkind fun env he s1 x => ?_
  subst he
  refine ⟨lim.keeps x.toInCall.keep, codeAny_func ?_⟩
  have I : Inv (cxOf CX0 P w K mg base ["_law_plan", "_law_told"] d_law_telling.qual (defScope s_law_telling) (He.fAd K d_law_telling.at_) (.ref cc) A outer s H E) [] (start ["_law_plan", "_law_told"] vs) H s1 := inv_start S hr.hd e0 hl r x
  obtain ⟨x0, rfl, hx0⟩ := h.one
  have h1 : PS (cxOf CX0 P w K mg base ["_law_plan", "_law_told"] d_law_telling.qual (defScope s_law_telling) (He.fAd K d_law_telling.at_) (.ref cc) A outer s H E) s_told _ :=
    NdefX.ps_ndefS (T := T0 K) (nm := fun _ _ => tellQ ++ "_law_told") (c := cc) (P := (He.cT K tdn).2) (st := s_told) (name := "_law_told") (pos := tpos) (i := 1) rfl (by have z := TB; rw [ecc] at z; exact z) rfl (List.mem_cons_self ..) rfl (fun p hp _ => by
      have e : p = ((He.cT K tdn).2, fun _ _ => tellQ ++ "_law_told") := by simpa using hp
      rw [e]) (NdefX.ndef_free (sc := defScope s_law_telling) (fr := ["_law_plan"]) (by decide +kernel)) rfl rfl rfl S.nd rfl (Or.inl rfl) (Or.inr rfl)
  refine wpAny_mono (run_def2 (te := tVar 1) h1 (pv 1) (N := fun σ' H' => ∃ f c', σ' = [some x0, some (.ref f)] ∧ LamX.ExtN H H' ∧ NdefX.TabsN (T0 K) H' ∧ H' f = some (NdefX.FnO f (fTold (s.heap.objs.size + 1) c')) ∧ H' c' = some (LamX.CodeO c' (tellQ ++ "_law_told")))
    (Q := fun v σ' H' => ∃ f c', v = .ref f ∧ σ' = [some x0, some (.ref f)] ∧ LamX.ExtN H H' ∧ NdefX.TabsN (T0 K) H' ∧ H' f = some (NdefX.FnO f (fTold (s.heap.objs.size + 1) c')) ∧ H' c' = some (LamX.CodeO c' (tellQ ++ "_law_told"))) I ⟨hT, fun f c' H1 e1 t1 _ h2 h3 => ⟨f, c', rfl, e1, t1, h2, h3⟩⟩ fun σ' H' ⟨f, c', h4, h5⟩ => ⟨.ref f, by rw [h4]; rfl, f, c', rfl, h4, h5⟩) (fun fl s' hs => ?_) (fun e s' hs => hs)
  obtain ⟨u, v, σ', H', rfl, J, ru, f, c', rfl, rfl, e1, t1, h2, h3⟩ := hs
  obtain ⟨m, hm, hloc⟩ := J.loc
  obtain ⟨u0, ru0, lk0⟩ := hloc 0 "_law_plan" x0 rfl rfl (Or.inr (Or.inl rfl))
  have hcell : s'.heap.IsCell (s.heap.objs.size + 1) (some u0) := by
    rcases lk0 with ⟨z, _⟩ | ⟨_, c2, hc2, hc3⟩
    · have z : (defScope s_law_telling).names.lookup ("_law_plan" : Str) = some .local := z
      exact absurd z (by decide +kernel)
    · have e2 : (cellsFrom (s.heap.objs.size + 1) (defScope s_law_telling).names []).lookup ("_law_plan" : Str) = some (s.heap.objs.size + 1) := rfl
      have hc2 : (cellsFrom (s.heap.objs.size + 1) (defScope s_law_telling).names []).lookup ("_law_plan" : Str) = some c2 := hc2
      rw [e2] at hc2
      cases hc2
      exact hc3
  have hn : H' (s.heap.objs.size + 1) = none := J.freeC "_law_plan" _ rfl
  obtain ⟨a, xs, ex, _, _⟩ := hx0.tup_inv
  subst ex
  have nc : ∀ {b : Addr} {o : Obj}, s.heap.get? b = some o → b ≠ s.heap.objs.size + 1 := fun {b o} e => Nat.ne_of_lt (Nat.lt_succ_of_lt (Heap.lt_size e))
  have U := J.base
  have im : Im H H' := fun b o hb fx => e1 b o hb fun ps z => by
    rw [z] at fx
    exact fx
  have e2 : Same H' (upd H' (s.heap.objs.size + 1) (CellO (s.heap.objs.size + 1) (.ref a))) := same_new hn
  refine ⟨.ref f, upd H' (s.heap.objs.size + 1) (CellO (s.heap.objs.size + 1) (.ref a)), J.os, J.bare, ⟨fun b o e n hf hx => U.keep b o e n hf hx, fun b o e n hf hx => U.slot b o e n hf hx, fun b o e n hx => by rw [upd_ne (nc e)]; exact U.free b o e n hx, U.there, fun b xs e => e2 _ _ (U.tups b xs e), fun b o v e => e2 _ _ (U.frzs b o v e), fun b ps e => by
    obtain ⟨more, z⟩ := U.tbls b ps e
    exact ⟨more, e2 _ _ z⟩⟩, hok_cell J.hok hn ru0 hcell, ru, ?_⟩
  refine q (.ref f) _ (fun b o hb hn2 => e2 _ _ (e1 b o hb hn2)) (t1.ext e2) ⟨f, rfl, ?_⟩
  have cl := clb_told (P := P) (w := w) (mg := mg) (base := base) (pl := pl) (e2 _ _ h2) (e2 _ _ h3) upd_same ((hx0.im im).im (.of e2))
  exact ⟨cl.fn, fun A outer s H1 us vs Q im hr e0 r h => cl.run A outer s H1 us vs Q im (hr.mono (by decide)) e0 r h⟩
end
end RP
set_option maxHeartbeats 4000000
namespace RP
open PySem PySem.Spec PyProof.Rows L2
/-! ### what an expression gives, the deck drawn from, functions made -/
def GI (M M' : Hm) (Γ : Ctx) (te : TE) (P : Ty) : Prop := ∀ (σ : L2.St) (H : Hp) (Q : VK), M.p H → Sat Γ σ H → (∀ v H', Im H H' → M'.p H' → P.p v H' → Q v H') → te σ H Q
def GaI (M M' : Hm) (Γ : Ctx) (ts : TA) (Ps : List Ty) : Prop := ∀ (σ : L2.St) (H : Hp) (Q : List V → Hp → Prop), M.p H → Sat Γ σ H → (∀ vs H', Im H H' → M'.p H' → Pv H' Ps vs → Q vs H') → ts σ H Q
section
variable {K : PySem.W.Frag} {Γ Γ1 : Ctx} {M M1 M2 : Hm} {D : Ends} {u t : TS} {ta tb te : TE} {ts tk : TA} {A B P R : Ty} {Ps Qs Zs Ds : List Ty} {E : XK} {g : TG}
theorem gi_of (h : Gv Γ te P) : GI M M Γ te P := fun σ H Q m s q => h σ H Q s fun v H' e hv => q v H' (.of e) (M.up e m) hv
theorem gi_ofM (h : GvM M Γ te P) : GI M M Γ te P := fun σ H Q m s q => h σ H Q m s fun v H' e hv => q v H' (.of e) (M.up e m) hv
theorem GI.to (h : GI M M1 Γ te P) (k : ∀ v H, P.p v H → R.p v H) : GI M M1 Γ te R := fun σ H Q m s q => h σ H Q m s fun v H' e m' hv => q v H' e m' (k v H' hv)
theorem gai_nil : GaI M M Γ tNil [] := fun σ H Q m s q => q [] H (.refl H) m .nil
theorem gai_of (h : Ga Γ ts Ps) : GaI M M Γ ts Ps := fun σ H Q m s q => h σ H Q s fun vs H' e hv => q vs H' (.of e) (M.up e m) hv
theorem gai_cons (gx : CtxFx Γ) (fx : A.Fx) (ha : GI M M1 Γ ta A) (hs : GaI M1 M2 Γ ts Ps) : GaI M M2 Γ (tCons ta ts) (A :: Ps) := fun σ H Q m s q =>
  ha σ H _ m s fun x H1 e1 m1 hx => hs σ H1 _ m1 (gx.sat s e1) fun xs H2 e2 m2 hxs => q (x :: xs) H2 (e1.trans e2) m2 (.cons (fx e2 hx) hxs)
theorem gi_cb {r : List V → Hp → VK → Prop} (hs : GaI M M1 Γ ts Ps) (hr : Gc r Ps P) : GI M M1 Γ (tCB r ts) P := fun σ H Q m s q =>
  hs σ H _ m s fun vs H1 e1 m1 h1 => hr vs H1 Q h1 fun v H2 e2 hv => q v H2 (e1.trans (.of e2)) (M1.up e2 m1) hv
theorem gi_op {r : R2} (gx : CtxFx Γ) (fx : A.Fx) (ha : GI M M1 Γ ta A) (hb : GI M1 M2 Γ tb B) (hr : G2 r A B P) : GI M M2 Γ (tOp r ta tb) P := fun σ H Q m s q =>
  ha σ H _ m s fun x H1 e1 m1 hx => hb σ H1 _ m1 (gx.sat s e1) fun y H2 e2 m2 hy => hr x y H2 Q (fx e2 hx) hy fun v H3 e3 hv => q v H3 ((e1.trans e2).trans (.of e3)) (M2.up e3 m2) hv
theorem gi_call {ι : Type} {C : ι → Prop} {Pk : ι → List Ty} {Rk : ι → Ty} (i : ι) (hs : GaI M M1 Γ ts Qs) (e : Pk i = Qs) (c : C i) : GI M M1 Γ (tCall (spP C Pk Rk) [] E0 ts) (Rk i) := fun σ H Q m s q =>
  hs σ H _ m s fun vs H1 e1 m1 h1 => ⟨i, c, by rw [e, List.append_nil]; exact h1, fun v H' e2 hv => q v H' (e1.trans (.of e2)) (M1.up e2 m1) hv⟩
theorem qi_set {i : Nat} (gx : CtxFx Γ) (h : GI M M1 Γ te P) (k : Go M1 (Γ.set i (some P)) D u) : Go M Γ D (tSeq (tAsg te (gName i)) u) := fun σ H m s =>
  h σ H _ m s fun v H' e m' hv => k _ H' m' ((gx.sat s e).set i hv)
theorem qi_asg (gx : CtxFx Γ) (h : GI M M1 Γ te P) (hg : Gt Γ g P Γ1) (k : Go M1 Γ1 D u) : Go M Γ D (tSeq (tAsg te g) u) := fun σ H m s =>
  h σ H _ m s fun v H' e m' hv => hg v σ H' _ (gx.sat s e) hv fun σ2 H2 e2 s2 => k σ2 H2 (M1.up e2 m') s2
theorem gi_ret (h : GI M M1 Γ te P) (r : ∀ v H', M1.p H' → P.p v H' → D.rt v H') : Go M Γ D (tRet te) := fun σ H m s => h σ H _ m s fun v H' e m' hv => r v H' m' hv
/-- a test -/
def GbI (M M' : Hm) (Γ : Ctx) (tt : TT) (b : Bool) : Prop := ∀ (σ : L2.St) (H : Hp) (Q : Bool → Hp → Prop), M.p H → Sat Γ σ H → (∀ H', Im H H' → M'.p H' → Q b H') → tt σ H Q
theorem gbi_of {c : TT} {b : Bool} (h : Gb Γ c b) : GbI M M Γ c b := fun σ H Q m s q => h σ H Q s fun H' e => q H' (.of e) (M.up e m)
theorem gbi_val {b : Bool} (h : GI M M1 Γ te (tD K (.bool b))) : GbI M M1 Γ (tTest te) b := fun σ H Q m s q => h σ H _ m s fun v H' e m' hv => ⟨b, Du.bl_inv hv, q H' e m'⟩
theorem qi_when {c : TT} {b : Bool} (gx : CtxFx Γ) (hc : GbI M M1 Γ c b) (h1 : b = true → Go M1 Γ { D with nx := u D } t) (h2 : b = false → Go M1 Γ D u) : Go M Γ D (tSeq (tIfS c t tNext) u) := fun σ H m s => hc σ H _ m s fun H1 e1 m1 => by
  cases b with
  | true => exact iteT (h1 rfl σ H1 m1 (gx.sat s e1))
  | false => exact iteF (h2 rfl σ H1 m1 (gx.sat s e1))
end
/-! ### the deck and the tables -/
section
variable {a l : Addr} {c n : Nat} {H H' : Hp} {T : List NdefX.NTab}
theorem tabs_same (t : NdefX.TabsN T H) (e : SameD a l H H') (d : Deck a l c H) : NdefX.TabsN T H' := fun p hp => by
  obtain ⟨ps, h1, h2, h3⟩ := t p hp
  obtain ⟨cs, sd, ct, d1, d2, _⟩ := d
  have na : ∀ {b : Addr} {o : HO}, H b = some o → (∀ xs, o ≠ .lst xs) → b ≠ a ∧ b ≠ l := fun {b o} hb hn => ⟨fun z => by
    rw [z, d1] at hb
    exact hn _ (Option.some.inj hb).symm, fun z => by
    rw [z, d2] at hb
    exact hn _ (Option.some.inj hb).symm⟩
  have k1 := na h1 (fun xs z => nomatch z)
  refine ⟨ps, e _ _ k1.1 k1.2 h1, h2, fun pos cv hc => ?_⟩
  obtain ⟨c', e1, e2⟩ := h3 pos cv hc
  have k2 := na e2 (fun xs z => by
    have z' : HO.ext _ = HO.lst xs := z
    cases z')
  exact ⟨c', e1, e _ _ k2.1 k2.2 e2⟩
def Hm.dt (T : List NdefX.NTab) (a l : Addr) (c : Nat) : Hm := ⟨fun H => Deck a l c H ∧ NdefX.TabsN T H, fun e h => ⟨h.1.up e, h.2.ext e⟩⟩
theorem gi_gx {Γ : Ctx} {te : TE} {P : Ty} (h : Gx a l n Γ te P) (b : c + n ≤ 1000000) : GI (Hm.dt T a l c) (Hm.dt T a l (c + n)) Γ te P := fun σ H Q m s q => h σ H Q c s m.1 b fun v H' e d hv => q v H' (e.im m.1) ⟨d, tabs_same m.2 e m.1⟩ hv
end
/-! ### defs whose calls have no display hook (for repr) -/
structure FnOkG (P : Program) (w : World) (K : PySem.W.Frag) (mg : Str → Option Value) (base : Heap) (CX : CXT) (k : Nat) (f : Addr) (fd : FuncData) (ps : List Str) (sp : Sp) : Prop where
  len : ∀ vs H Q E, sp vs H Q E → vs.length = ps.length
  run : ∀ (A : Around) (outer : List Env) (s : Shared) (H : Hp) (args : Args) (us : List Value) (vs : List V) (Q : VK) (E : XK), A.guards = some [] → Room k A → Env0 P w K mg base A outer s H → BindsTo s fd args (ps.zip us) → Vals vs us → sp vs H Q E →
    codeAny (model P w) A (.call (.ref f) args) (CR CX outer P w H s Q E) s
section
variable {P : Program} {w : World} {K : PySem.W.Frag} {mg : Str → Option Value} {base : Heap} {x qual : Str} {params : Arguments} {body : List Stmt} {scope : Scope} {dvs : List V} {kws : List (Str × V)} {f : Addr} {fd : FuncData}
theorem okG {CX : CXT} {N ps : List Str} {k : Nat} {sp : Sp} (F : FunD K x qual params body scope dvs kws f fd) (S : FnScope N ps scope) (len : ∀ vs H Q E, sp vs H Q E → vs.length = ps.length)
    (hbody : ∀ (cdv : Value) (A : Around) (outer : List Env) (s : Shared) (H : Hp) (vs : List V) (Q : VK) (E : XK), A.guards = some [] → Room k (A.deeper (envOfC qual scope s.heap.objs.size f cdv)) → sp vs H Q E →
      ∃ t, PSs (cxOf CX P w K mg base N qual scope f cdv A outer s H E) body t ∧ t { nx := fun _ H' => Q .non H', rt := Q } (start N vs) H) : FnOkG P w K mg base CX (k + 1) f fd ps sp := by
  obtain ⟨oc, od, dV, kV, doc, pm, an, cdv, ct, osl, rfl, lk, hcd, _, _⟩ := F.ex
  refine ⟨len, fun A outer s H args us vs Q E hg hr e0 hb r hsp => ?_⟩
  have hl := len _ _ _ _ hsp
  have KX : K.In s.heap := e0.mod.kin.keeps fun b o e => (e0.bs b o e).1
  have lim : s.heap.NoLimit := e0.mod.nolimit.keeps fun b o e => (e0.bs b o e).1
  have hkind : ∀ y ∈ ps.zip us, scope.names.lookup y.1 = some .local ∨ (scope.names.lookup y.1 = some .cell ∧ ((cellsFrom (s.heap.objs.size + 1) scope.names []).lookup y.1).isSome = true) := fun ⟨n, v⟩ hy =>
    (S.par n (List.of_mem_zip hy).1).elim .inl fun q => .inr ⟨q, PySem.W.cellsFrom_some _ _ _ (.inl q)⟩
  refine codeAny_call_function hr.depth (KX _ _ lk) rfl S.co S.gen rfl (PySem.W.codeRec_of KX hcd) (hb _ _ _ _ ?_)
  refine wpAny_newFunctionEnv_cells S.kind hkind fun env he s1 x => ?_
  subst he
  refine ⟨lim.keeps x.toInCall.keep, codeAny_func ?_⟩
  obtain ⟨t, ht, hq⟩ := hbody cdv A outer s H vs Q E hg (hr.deeper _) hsp
  have I : Inv (cxOf CX P w K mg base N qual scope f cdv A outer s H E) [] (start N vs) H s1 := inv_start S hr.hd e0 hl r x
  refine wpAny_mono (ht.run [] s1 (start N vs) H _ I hq) (fun fl s' hs => ?_) fun e s' hs => hs
  have fin : ∀ {σ' : L2.St} {H' : Hp} {v : V} {u : Value}, Inv (cxOf CX P w K mg base N qual scope f cdv A outer s H E) [] σ' H' s' → RelV v u → Q v H' → CE outer P w H s Q u s' :=
    fun {σ' H' v u} J rv q => ⟨v, H', J.os, J.bare, J.base, J.hok, rv, q⟩
  cases fl with
  | ret u =>
    obtain ⟨v, σ', H', J, rv, q⟩ := hs
    exact fin J rv q
  | next =>
    obtain ⟨σ', H', J, q⟩ := hs
    exact fin (v := V.non) (u := Value.none) J rfl q
  | brk =>
    obtain ⟨_, _, _, q⟩ := hs
    exact q.elim
  | cont =>
    obtain ⟨_, _, _, q⟩ := hs
    exact q.elim
/-- the module's x, so called -/
def CalG (P : Program) (w : World) (K : PySem.W.Frag) (mg : Str → Option Value) (base : Heap) (x : Str) (k : Nat) (sp : Sp) : Prop := ∃ f fd ps, FnOkG P w K mg base CX0 k f fd ps sp ∧ mg x = some (.ref f) ∧ PySem.W.keepIn K (.ref f) = true ∧ Binds K fd ps []
end
section
variable {X : Cx} {x : Str} {k j : Nat} {sp : Sp} {p pos : Pos} {e : Expr} {es : List Expr} {t : TA}
theorem pe_calG (c : CalG X.prog X.w X.K X.mg X.base x k sp) (hgA : X.A.guards = some []) (hr : Room j X.A) (hk : k ≤ j) (hg : L2.Gl X x) (ha : PA X (e :: es) t) (hdb : (x == ("__debug__" : Str)) = false := by decide) (he : starEach (e :: es) X.env = (false, eval e X.env) :: starEach es X.env := by rfl) (hpl : (backTo pos (starEach es X.env)).any (·.1) = false := by rfl) :
    PE X (.Call (.Name x p) (e :: es) [] pos) (tCall sp [] E0 t) := by
  obtain ⟨f, fd, ps, F, hm, hkp, hb⟩ := c
  refine ⟨fun pins s σ H Q I h => ?_⟩
  refine wpAny_Call_Name_kw (ld_glob I hg hm ?_ hdb)
  refine PySem.W.callWith_K (h₀ := X.base) I.ok.mod.kin hkp (thn (ha.run pos pins s σ H _ I h) fun us s1 ⟨vs, H1, I1, r, q⟩ => ⟨I1.kIn, ?_⟩) he hpl
  have q : sp (vs ++ []) H1 Q E0 := q
  rw [List.append_nil] at q
  have hl : us.length = ps.length := by rw [← r.length]; exact F.len _ _ _ _ q
  refine wpAny_call (codeAny_mono (F.run X.A X.stack s1 H1 ⟨us, []⟩ us vs Q E0 hgA (hr.mono hk) I1.env0 (by
    have z := hb s1 us I1.kIn (by simpa using hl)
    simpa using z) r q) fun r s' hq => ?_)
  cases r with
  | error e => exact hq.elim
  | ok fl =>
    cases fl with
    | ret u => exact I1.after hq
    | next => exact hq.elim
    | brk => exact hq.elim
    | cont => exact hq.elim
end
end RP
set_option maxHeartbeats 4000000
namespace RP
open PySem PySem.Spec PyProof.Rows L2
/-! ### data whose text is no long one -/
structure Sw (n : Nat) (d : PyData) : Prop where
  s : d.showable = true
  h : d.hasDict = false
  l : d.leavesShort 13 = true
  w : d.weight ≤ n
structure Sws (n : Nat) (ds : List PyData) : Prop where
  s : PyData.showableAll ds = true
  h : PyData.hasDictAll ds = false
  l : PyData.leavesShortAll 13 ds = true
  w : PyData.weightAll ds ≤ n
theorem Sw.tup {n : Nat} {ds : List PyData} (h : Sws n ds) : Sw n (.tuple ds) := ⟨by simp only [PyData.showable]; exact h.s, by simp only [PyData.hasDict]; exact h.h, by simp only [PyData.leavesShort]; exact h.l, by simp only [PyData.weight]; exact h.w⟩
theorem sws_nil : Sws 0 [] := ⟨by simp [PyData.showableAll], by simp [PyData.hasDictAll], by simp [PyData.leavesShortAll], by simp [PyData.weightAll]⟩
theorem sws_cons {m n : Nat} {d : PyData} {ds : List PyData} (a : Sw m d) (b : Sws n ds) : Sws (m + 1 + n) (d :: ds) :=
  ⟨by simp only [PyData.showableAll, a.s, b.s]; rfl, by simp only [PyData.hasDictAll, a.h, b.h]; rfl, by simp only [PyData.leavesShortAll, a.l, b.l]; rfl, by simp only [PyData.weightAll]; have := a.w; have := b.w; omega⟩
theorem Sw.mono {m n : Nat} {d : PyData} (a : Sw m d) (h : m ≤ n) : Sw n d := ⟨a.s, a.h, a.l, Nat.le_trans a.w h⟩
theorem Sws.mono {m n : Nat} {ds : List PyData} (a : Sws m ds) (h : m ≤ n) : Sws n ds := ⟨a.s, a.h, a.l, Nat.le_trans a.w h⟩
theorem log_le {k : Nat} (h : k < 2 ^ 30) : k.log2 < 30 := by
  by_cases z : k = 0
  · rw [z]; decide
  · exact (Nat.log2_lt z).mpr h
theorem Sw.int {i : Int} (h : -1000000000 ≤ i ∧ i ≤ 1000000000) : Sw 30 (.int i) := by
  have hk : i.natAbs < 2 ^ 30 := by
    have : (2 : Nat) ^ 30 = 1073741824 := by decide
    omega
  have hl := log_le hk
  refine ⟨?_, by simp [PyData.hasDict], ?_, ?_⟩
  · simp only [PyData.showable, decide_eq_true_eq]
    omega
  · simp only [PyData.leavesShort, decide_eq_true_eq]
    exact PyData.shown_int_le2 (by omega) (by omega)
  · simp only [PyData.weight]
    split <;> omega
theorem Sw.bool {b : Bool} : Sw 0 (.bool b) := ⟨by simp [PyData.showable], by simp [PyData.hasDict], by simp [PyData.leavesShort], by simp [PyData.weight]⟩
theorem sws_map {α : Type} {m : Nat} {f : α → PyData} : ∀ {l : List α}, (∀ x ∈ l, Sw m (f x)) → Sws ((m + 1) * l.length) (l.map f)
  | [], _ => sws_nil
  | x :: l, h => by
    have a := h x (List.mem_cons_self ..)
    have b := sws_map (l := l) fun y hy => h y (List.mem_cons_of_mem _ hy)
    refine (sws_cons a b).mono ?_
    rw [List.length_cons, Nat.mul_succ]
    omega
theorem Sw.dI {ns : List Int} (h : ∀ x ∈ ns, -1000000000 ≤ x ∧ x ≤ 1000000000) {k : Nat} (hk : ns.length ≤ k) : Sw (31 * k) (dI ns) := .tup ((sws_map fun x hx => .int (h x hx)).mono (Nat.mul_le_mul_left 31 hk))
theorem Sw.dPs {ps : List (Int × Int)} (h : ∀ q ∈ ps, (-1000000000 ≤ q.1 ∧ q.1 ≤ 1000000000) ∧ -1000000000 ≤ q.2 ∧ q.2 ≤ 1000000000) {k : Nat} (hk : ps.length ≤ k) : Sw (63 * k) (dPs ps) :=
  .tup ((sws_map (f := fun q : Int × Int => PyData.tuple [.int q.1, .int q.2]) (m := 62) fun q hq => .tup ((sws_cons (.int (h q hq).1) (sws_cons (.int (h q hq).2) sws_nil)).mono (by decide))).mono (Nat.mul_le_mul_left 63 hk))
theorem Sw.fits {n : Nat} {d : PyData} (h : Sw n d) (hn : n ≤ 1048576) : d.shown.length ≤ sizeLine := PyData.shown_fits (B := 13) (by decide) (by decide) h.l (Nat.le_trans h.w (by
  have : (2 : Nat) ^ 20 = 1048576 := by decide
  omega))
section
variable {P : Program} {w : World} {K : PySem.W.Frag} {mg : Str → Option Value} {base : Heap} {Γ : Ctx} {ta tb tc td te tf' tg th : TE}
/-- repr of such data -/
theorem gc_repr {n m : Nat} {ds : List PyData} (h : Sw n (.tuple ds)) (hn : n ≤ 1048576) (hd : Lay m (.tuple ds)) (hm : m ≤ 30) : Gc (rRepr K) [tD K (.tuple ds)] (tD K (.str (PyData.tuple ds).shown)) := fun vs H Q hv q => by
  obtain ⟨v, rfl, h1⟩ := hv.one
  obtain ⟨a, xs, rfl, _, _⟩ := Du.tup_inv h1
  exact ⟨a, _, rfl, Du.dp h1, h.s, h.h, Nat.le_trans hd.p hm, h.fits hn, q _ H (.refl H) (.str _)⟩
structure RrOk (r : Rr) : Prop where
  rates : r.rates.length ≤ 1000 ∧ ∀ x ∈ r.rates, -1000000000 ≤ x ∧ x ≤ 1000000000
  begun : r.begun.length ≤ 1000 ∧ ∀ x ∈ r.begun, -1000000000 ≤ x ∧ x ≤ 1000000000
  whole : r.whole.length ≤ 1000 ∧ ∀ x ∈ r.whole, -1000000000 ≤ x ∧ x ≤ 1000000000
  plays : r.plays.length ≤ 1000 ∧ ∀ x ∈ r.plays, -1000000000 ≤ x ∧ x ≤ 1000000000
  stalls : r.stalls.length ≤ 1000 ∧ ∀ q ∈ r.stalls, (-1000000000 ≤ q.1 ∧ q.1 ≤ 1000000000) ∧ -1000000000 ≤ q.2 ∧ q.2 ≤ 1000000000
  ended : -1000000000 ≤ r.ended ∧ r.ended ≤ 1000000000
  kept : r.kept.length ≤ 1000 ∧ ∀ x ∈ r.kept, -1000000000 ≤ x ∧ x ≤ 1000000000
theorem sw_rr {r : Rr} (h : RrOk r) : Sw 300000 (dRr r) :=
  Sw.mono (.tup (sws_cons (.dI h.rates.2 h.rates.1) (sws_cons (.dI h.begun.2 h.begun.1) (sws_cons (.dI h.whole.2 h.whole.1) (sws_cons (.dI h.plays.2 h.plays.1) (sws_cons (.dPs h.stalls.2 h.stalls.1) (sws_cons (.int h.ended) (sws_cons (.dI h.kept.2 h.kept.1) sws_nil)))))))) (by decide)
theorem rr_ok {t : Tk} {o : Op} {W : Wk} (tk : TOk t) (h : WOk t o W) (hb : W.b ≤ 300) : RrOk (rrOf W) := by
  have n6 := tk.le
  have w4 := tk.w1
  have sn := h.s.n
  have r1 := h.rl
  have r2 := h.bl
  have l1 : W.rates.length ≤ 1000 := by split at r1 <;> omega
  have l2 : W.begun.length ≤ 1000 := by split at r2 <;> omega
  have bd : ∀ {l : List Int} {B : Int}, Bd B l → B ≤ 1000 → ∀ x ∈ l, -1000000000 ≤ x ∧ x ≤ 1000000000 := fun hl hB x hx => by
    have := hl x hx
    omega
  refine ⟨⟨l1, fun x hx => ?_⟩, ⟨l2, bd h.bb (by omega)⟩, ⟨Nat.le_trans h.wl (by omega), bd h.wb (by omega)⟩, ⟨Nat.le_trans h.pl (by omega), bd h.pb (by omega)⟩, ⟨Nat.le_trans h.tl (by omega), fun q hq => ?_⟩, ?_, ⟨by show W.kept.length ≤ 1000; rw [h.kl]; omega, bd h.kb (by omega)⟩⟩
  · have := h.rv x hx
    omega
  · obtain ⟨⟨a1, a2⟩, a3, a4⟩ := h.tb q hq
    exact ⟨⟨by omega, by omega⟩, by omega, by omega⟩
  · show -1000000000 ≤ ((W.b : Nat) : Int) ∧ ((W.b : Nat) : Int) ≤ 1000000000
    omega
theorem sc_law_fields : FnScope ["_law_run_here"] ["_law_run_here"] (defScope s_law_fields) := ⟨rfl, rfl, rfl, by decide +kernel, rfl, by decide +kernel, by decide +kernel⟩
def spFields (K : PySem.W.Frag) : Sp := spP RrOk (fun r => [tRun K r]) (fun r => tD K (.str (dRr r).shown))
theorem c_law_fields (T : Txt K mg) : CalG P w K mg base "_law_fields" 1 (spFields K) := by
  obtain ⟨fd, F⟩ := T.d_law_fields
  refine ⟨_, fd, ["_law_run_here"], ?_, T.g_law_fields, F.kp, F.bindsN (fun _ _ _ _ _ _ us hl => match us, hl with | [_], _ => rfl)⟩
  refine okG F sc_law_fields (fun vs H Q E ⟨r, _, h, _⟩ => h.len) fun cdv A outer s H vs Q E hg hr ⟨r, c, h, q⟩ => ?_
  refine ⟨_, PSs.nox (pss_one (ps_ret (pe_callB (id := "repr") (call_repr hg hr.units) (by rfl) T.f_repr (by decide +kernel) (pa_cons (pe_tup (pa_cons (pe_fld (pv 0) rfl) (pa_cons (pe_fld (pv 0) rfl) (pa_cons (pe_fld (pv 0) rfl) (pa_cons (pe_fld (pv 0) rfl) (pa_cons (pe_fld (pv 0) rfl) (pa_cons (pe_fld (pv 0) rfl) (pa_cons (pe_fld (pv 0) rfl) pa_nil)))))))) pa_nil)))), ?_⟩
  refine go_run (M := Hm.of H) ?_ (Same.refl H) h.ent
  try dsimp only [Cx.nox, cxOf, ent, List.map, List.length_cons, List.length_nil, List.replicate_succ, List.replicate_zero, List.cons_append, List.nil_append, List.set]
  have c : RrOk r := c
  exact go_ret (R := tD K (.str (dRr r).shown)) (gv_cb1 (gv_tupd (gd_cons (gv_Run_rates T (gv_var rfl)) (gd_cons (gv_Run_begun T (gv_var rfl)) (gd_cons (gv_Run_whole T (gv_var rfl)) (gd_cons (gv_Run_plays T (gv_var rfl)) (gd_cons (gv_Run_stalls T (gv_var rfl)) (gd_cons (gv_Run_ended T (gv_var rfl)) (gd_cons (gv_Run_kept T (gv_var rfl)) gd_nil))))))) rfl) (gc_repr (sw_rr c) (by decide) (lay_Rr r) (by decide))) (fun v H' m r => q v H' m r) fun _ _ h => h
theorem r_fields {r : Rr} (a : Gv Γ ta (tRun K r)) (c : RrOk r) : Gv Γ (tCall (spFields K) [] E0 (tCons ta tNil)) (tD K (.str (dRr r).shown)) := gv_call0 r (ga_cons a ga_nil) rfl c
end
end RP
set_option maxHeartbeats 4000000
namespace RP
open PySem PySem.Spec PyProof.Rows L2
section
variable {P : Program} {w : World} {K : PySem.W.Frag} {mg : Str → Option Value} {base : Heap} {Γ : Ctx} {ta tb tc td te tf' tg th : TE} {M : Hm} {D : Ends} {u : TS}
def nmO : Out → Str
  | .many => "many"
  | .stalls _ => "stalls"
  | .never _ => "never"
theorem dOut_eq (o : Out) : dOut o = .tuple [.str (nmO o), dTh o] := by cases o <;> rfl
def dNever (o : Out) : PyData := .tuple [dOut o, .bool (isNev o), .bool (isSta o)]
abbrev gOut (g : Gu) : Out := search g.t g.o g.ch g.kd
theorem r_never_holds {i : Nh} (a1 : Gv Γ ta (tTalk K i.g.t)) (a2 : Gv Γ tb (tCz P w K mg base i.g.t.N i.g.c)) (a3 : Gv Γ tc (tD K (dKd i.g.kd))) (a4 : Gv Γ td (tD K (dTh i.out))) (a5 : Gv Γ te (tD K (.int i.g.o.beg))) (a6 : Gv Γ tf' (tD K (.int i.g.o.aga))) (a7 : Gv Γ tg (tD K (.int i.g.o.mst))) (a8 : Gv Γ th (tD K (.int i.g.o.wai))) (c : NhOk i) :
    Gv Γ (tCallN 4 4 (spNH P w K mg base) gApp E0 (tCons ta (tCons tb (tCons tc (tCons td tNil)))) (tCons te (tCons tf' (tCons tg (tCons th tNil))))) (tD K (.bool (isNev i.out))) :=
  gv_callN i (ga_cons a1 (ga_cons a2 (ga_cons a3 (ga_cons a4 ga_nil)))) (ga_cons a5 (ga_cons a6 (ga_cons a7 (ga_cons a8 ga_nil)))) rfl rfl (fun H vs zs h1 h2 => h1.app h2) c
theorem r_stalls_holds {i : Nh} (a1 : Gv Γ ta (tTalk K i.g.t)) (a2 : Gv Γ tb (tCz P w K mg base i.g.t.N i.g.c)) (a3 : Gv Γ tc (tD K (dKd i.g.kd))) (a4 : Gv Γ td (tD K (dTh i.out))) (a5 : Gv Γ te (tD K (.int i.g.o.beg))) (a6 : Gv Γ tf' (tD K (.int i.g.o.aga))) (a7 : Gv Γ tg (tD K (.int i.g.o.mst))) (a8 : Gv Γ th (tD K (.int i.g.o.wai))) (c : NhOk i) :
    Gv Γ (tCallN 4 4 (spSH P w K mg base) gApp E0 (tCons ta (tCons tb (tCons tc (tCons td tNil)))) (tCons te (tCons tf' (tCons tg (tCons th tNil))))) (tD K (.bool (isSta i.out))) :=
  gv_callN i (ga_cons a1 (ga_cons a2 (ga_cons a3 (ga_cons a4 ga_nil)))) (ga_cons a5 (ga_cons a6 (ga_cons a7 (ga_cons a8 ga_nil)))) rfl rfl (fun H vs zs h1 h2 => h1.app h2) c
theorem takes0 {X : Cx} : Takes X (fun _ _ _ _ => False) := fun _ _ x => by
  obtain ⟨_, _, _, _, _, _, _, _, _, _, _, _, _, _, _, _, z⟩ := x
  exact z.elim
theorem sc_law_never : FnScope ["_law_talk_here", "_law_chooser", "_law_kind", "_law_options_here", "_law_first", "_law_later", "_law_high", "_law_waits", "_law_found", "_law_told", "_law_other"] ["_law_talk_here", "_law_chooser", "_law_kind", "_law_options_here"] (defScope s_law_never) := ⟨rfl, rfl, rfl, by decide +kernel, rfl, by decide +kernel, by decide +kernel⟩
abbrev tbN (P : Program) (w : World) (K : PySem.W.Frag) (mg : Str → Option Value) (base : Heap) : WX → TS := fun W => tAsg (tCallNS 3 5 (spNeverS P w K mg base) gApp (WE W) (tCons (tVar 0) (tCons (tVar 1) (tCons (tVar 2) tNil))) (tCons (tC (.int 150)) (tCons (tVar 4) (tCons (tVar 5) (tCons (tVar 6) (tCons (tVar 7) tNil)))))) (gName 8)
abbrev tsN : Addr → Value → Option Addr → TS := fun _ _ _ => tAsg (tTup (tCons (tC (.str "many")) (tCons (tTup tNil) tNil))) (gName 8)
def spLNever (P : Program) (w : World) (K : PySem.W.Frag) (mg : Str → Option Value) (base : Heap) : Sp := spP (fun g : Gu => GOk g ∧ Vch g.t g.ch) (fun g => [tTalk K g.t, tCz P w K mg base g.t.N g.c, tD K (dKd g.kd), tD K (dOp g.o)]) (fun g => tD K (dNever (gOut g)))
theorem q_tryN (T : Txt K mg) {g : Gu} {more : List (Option Ty)} (gk : GOk g) (vc : Vch g.t g.ch) (hΓ : Γ = some (tTalk K g.t) :: some (tCz P w K mg base g.t.N g.c) :: some (tD K (dKd g.kd)) :: some (tD K (dOp g.o)) :: some (tD K (.int g.o.beg)) :: some (tD K (.int g.o.aga)) :: some (tD K (.int g.o.mst)) :: some (tD K (.int g.o.wai)) :: more)
    (k : Go M (Γ.set 8 (some (tD K (dOut (gOut g))))) D u) : Go M Γ D (tSeq (fun D σ H => tbN P w K mg base (wOnly K (.ref (cToo K)) tsN (fun _ _ _ _ => False) D) D σ H) u) := fun σ H m s => by
  subst hΓ
  generalize hG : some (tTalk K g.t) :: some (tCz P w K mg base g.t.N g.c) :: some (tD K (dKd g.kd)) :: some (tD K (dOp g.o)) :: some (tD K (.int g.o.beg)) :: some (tD K (.int g.o.aga)) :: some (tD K (.int g.o.mst)) :: some (tD K (.int g.o.wai)) :: more = G at s k
  have A1 : Ga G (tCons (tVar 0) (tCons (tVar 1) (tCons (tVar 2) tNil))) [tTalk K g.t, tCz P w K mg base g.t.N g.c, tD K (dKd g.kd)] := by
    rw [← hG]
    exact ga_cons (gv_var rfl) (ga_cons (gv_var rfl) (ga_cons (gv_var rfl) ga_nil))
  have A2 : Ga G (tCons (tC (.int 150)) (tCons (tVar 4) (tCons (tVar 5) (tCons (tVar 6) (tCons (tVar 7) tNil))))) [tD K (.int 150), tD K (.int g.o.beg), tD K (.int g.o.aga), tD K (.int g.o.mst), tD K (.int g.o.wai)] := by
    rw [← hG]
    exact ga_cons gv_int (ga_cons (gv_var rfl) (ga_cons (gv_var rfl) (ga_cons (gv_var rfl) (ga_cons (gv_var rfl) ga_nil))))
  have A3 : Gv G (tTup (tCons (tC (.str "many")) (tCons (tTup tNil) tNil))) (tD K (dOut .many)) := gv_tupd (K := K) (gd_cons gv_str (gd_cons (gv_tupd gd_nil rfl) gd_nil)) rfl
  show tCons (tVar 0) (tCons (tVar 1) (tCons (tVar 2) tNil)) σ H fun vs H1 => tCons (tC (.int 150)) (tCons (tVar 4) (tCons (tVar 5) (tCons (tVar 6) (tCons (tVar 7) tNil)))) σ H1 fun zs H2 => vs.length = 3 ∧ zs.length = 5 ∧ spNeverS P w K mg base (gApp vs zs) H2 (fun v H' => u D (σ.set 8 (some v)) H') (WE (wOnly K (.ref (cToo K)) tsN (fun _ _ _ _ => False) { D with nx := u D }) σ)
  refine A1 σ H _ s fun vs H1 e1 hv => ?_
  refine A2 σ H1 _ (s.up e1) fun zs H2 e2 hz => ?_
  refine ⟨hv.len, hz.len, g, gk, vc, (hv.up e2).app hz, fun hm v H' e3 hd => ?_, fun hm dx H' e3 => ?_⟩
  · exact k _ H' (M.up ((e1.trans e2).trans e3) m) ((s.up ((e1.trans e2).trans e3)).set 8 hd)
  · refine ⟨true, T.ex.too.exm, fun _ a _ => ?_, fun z => nomatch z⟩
    refine A3 σ H' _ (s.up ((e1.trans e2).trans e3)) fun v H3 e4 hd => ?_
    refine k _ H3 (M.up (((e1.trans e2).trans e3).trans e4) m) ((s.up (((e1.trans e2).trans e3).trans e4)).set 8 ?_)
    have hm : gOut g = .many := hm
    rw [hm]
    exact hd
theorem c_law_never (T : Txt K mg) : Cal P w K mg base "_law_never" 10 [] (spLNever P w K mg base) := by
  obtain ⟨fd, F⟩ := T.d_law_never
  refine ⟨_, fd, ["_law_talk_here", "_law_chooser", "_law_kind", "_law_options_here"], [], ?_, T.g_law_never, F.kp, F.bindsN (fun _ _ _ _ _ _ us hl => match us, hl with | [_, _, _, _], _ => rfl), .nil⟩
  refine pure_ok F sc_law_never (fun _ => rfl) fun cdv A outer s H E g hr ⟨gk, vc⟩ => ⟨_, (pss_cons (ps_asg (pv 3) (pg_tup rfl (pgs_cons (pg_name (i := 4) sc_law_never.nd rfl (Or.inl rfl)) (pgs_cons (pg_name (i := 5) sc_law_never.nd rfl (Or.inl rfl)) (pgs_cons (pg_name (i := 6) sc_law_never.nd rfl (Or.inl rfl)) (pgs_cons (pg_name (i := 7) sc_law_never.nd rfl (Or.inl rfl)) pgs_nil)))))) (pss_cons (ps_set (i := 8) sc_law_never.nd rfl (Or.inl rfl) (pe_tup (pa_cons pe_str (pa_cons (pe_tup pa_nil) pa_nil)))) (pss_cons (ps_try_only (tb := tbN P w K mg base) (ts := tsN) (Wout := fun _ _ _ _ => False) rfl rfl ⟨rfl, by decide, .inl T.g_TooMany⟩ takes0 (fun W pn xe tk _ => (pss_one (ps_set (i := 8) sc_law_never.nd rfl (Or.inl rfl) (pe_calKS (c_never_stalls T) hr (by decide) rfl (fun σ => passAt tk σ) (pa_cons (pv 0) (pa_cons (pv 1) (pa_cons (pv 2) pa_nil))) (pk_cons pe_int (pk_cons (pv 4) (pk_cons (pv 5) (pk_cons (pv 6) (pk_cons (pv 7) pk_nil))))))))) (fun _ _ _ _ _ _ _ => (pss_one (ps_set (i := 8) sc_law_never.nd rfl (Or.inl rfl) (pe_tup (pa_cons pe_str (pa_cons (pe_tup pa_nil) pa_nil))))))) (pss_cons (ps_set (i := 9) sc_law_never.nd rfl (Or.inl rfl) (pe_calK (ck_never_holds T) hr (by decide) rfl (pa_cons (pv 0) (pa_cons (pv 1) (pa_cons (pv 2) (pa_cons (pe_ix (r := rIxT K) ix_tup (pv 8) pe_int (fun _ _ => rfl)) pa_nil)))) (pk_cons (pv 4) (pk_cons (pv 5) (pk_cons (pv 6) (pk_cons (pv 7) pk_nil)))))) (pss_cons (ps_set (i := 10) sc_law_never.nd rfl (Or.inl rfl) (pe_calK (ck_stalls_holds T) hr (by decide) rfl (pa_cons (pv 0) (pa_cons (pv 1) (pa_cons (pv 2) (pa_cons (pe_ix (r := rIxT K) ix_tup (pv 8) pe_int (fun _ _ => rfl)) pa_nil)))) (pk_cons (pv 4) (pk_cons (pv 5) (pk_cons (pv 6) (pk_cons (pv 7) pk_nil)))))) (pss_one (ps_ret (pe_tup (pa_cons (pv 8) (pa_cons (pv 9) (pa_cons (pv 10) pa_nil))))))))))), fun M D r nn => ?_⟩
  try dsimp only [Cx.nox, cxOf, ent, List.map, List.length_cons, List.length_nil, List.replicate_succ, List.replicate_zero, List.cons_append, List.nil_append, List.set]
  have told : Told g.t g.o g.ch g.kd (gOut g) := search_told gk.t gk.o vc gk.k
  refine q_asg (gv_var rfl) (gt_tup (ds := [.int g.o.beg, .int g.o.aga, .int g.o.mst, .int g.o.wai]) (gts_cons gt_name (gts_cons gt_name (gts_cons gt_name (gts_cons gt_name gts_nil)))) rfl) ?_
  try dsimp only [List.set]
  refine q_set (gv_tupd (K := K) (gd_cons gv_str (gd_cons (gv_tupd gd_nil rfl) gd_nil)) rfl) ?_
  try dsimp only [List.set]
  refine q_tryN T gk vc rfl ?_
  try dsimp only [List.set]
  have hx : ∀ {Γ : Ctx} {te : TE}, Gv Γ te (tD K (dOut (gOut g))) → Gv Γ (tOp (rIxT K) te (tC (.int 1))) (tD K (dTh (gOut g))) := fun h => gv_ixN (j := 1) (h.eq (dOut_eq _)) gv_int rfl rfl
  refine q_set (r_never_holds (i := ⟨g, gOut g⟩) (gv_var rfl) (gv_var rfl) (gv_var rfl) (hx (gv_var rfl)) (gv_var rfl) (gv_var rfl) (gv_var rfl) (gv_var rfl) ⟨gk, vc, told⟩) ?_
  try dsimp only [List.set]
  refine q_set (r_stalls_holds (i := ⟨g, gOut g⟩) (gv_var rfl) (gv_var rfl) (gv_var rfl) (hx (gv_var rfl)) (gv_var rfl) (gv_var rfl) (gv_var rfl) (gv_var rfl) ⟨gk, vc, told⟩) ?_
  try dsimp only [List.set]
  exact go_retD r (gv_tupd (gd_cons (gv_var rfl) (gd_cons (gv_var rfl) (gd_cons (gv_var rfl) gd_nil))) rfl) rfl
theorem r_never {g : Gu} (a1 : Gv Γ ta (tTalk K g.t)) (a2 : Gv Γ tb (tCz P w K mg base g.t.N g.c)) (a3 : Gv Γ tc (tD K (dKd g.kd))) (a4 : Gv Γ td (tD K (dOp g.o))) (c : GOk g ∧ Vch g.t g.ch) :
    Gv Γ (tCall (spLNever P w K mg base) [] E0 (tCons ta (tCons tb (tCons tc (tCons td tNil))))) (tD K (dNever (gOut g))) := gv_call0 g (ga_cons a1 (ga_cons a2 (ga_cons a3 (ga_cons a4 ga_nil)))) rfl c
end
end RP
set_option maxHeartbeats 4000000
namespace RP
open PySem PySem.Spec PyProof.Rows L2
/-! ### how long the text of a search's outcome is -/
theorem Sw.nm (o : Out) : Sw 10 (.str (nmO o)) := by
  have h : ∀ x ∈ (["many", "stalls", "never"] : List Str), PyData.leavesShort 13 (.str x) = true ∧ PyData.weight (.str x) ≤ 10 := by decide +kernel
  have hm : nmO o ∈ (["many", "stalls", "never"] : List Str) := by
    cases o
    · exact .head _
    · exact .tail _ (.head _)
    · exact .tail _ (.tail _ (.head _))
  exact ⟨rfl, rfl, (h _ hm).1, (h _ hm).2⟩
theorem sw_sd {t : Tk} {o : Op} {s : Sd} (tk : TOk t) (ok : OOk t o) (h : SOk t o s) : Sw 200 (dSd s) := by
  have n6 := tk.le
  have hn := h.n
  have hk := h.k0
  have hm := h.km
  have ml := ok.mle
  have p0 := h.p0
  have w4 := tk.w1
  have wa := ok.w
  have sm := h.sum
  have sl : (t.len.take s.n).sum ≤ 30 := by
    have a := (take_le (l := t.len) (fun x hx => (tk.l1 x hx).1) s.n).2
    have b := sum_le5 (l := t.len) fun x hx => (tk.l1 x hx).2
    have n6 : t.len.length ≤ 6 := tk.le
    omega
  have hw := h.w3
  have hc : (-1 ≤ s.c ∧ s.c ≤ 10) ∧ -20 ≤ s.g ∧ s.g ≤ 20 := by
    rcases h.com with ⟨a, b⟩ | ⟨a, b, c, d, e, f⟩
    · omega
    · have := tk.S1 c a b
      omega
  exact Sw.mono (.tup (sws_cons (.int (by omega)) (sws_cons (.int (by omega)) (sws_cons (.int (by omega)) (sws_cons (.int (by omega)) (sws_cons (.int (by omega)) (sws_cons (.int (by omega)) sws_nil))))))) (by decide)
theorem sw_wt {t : Tk} {o : Op} {kd : Kd} {x : Wt} (tk : TOk t) (ok : OOk t o) (kk : KOk kd) (h : WtOk t o kd x) (b : WtB 1000 x) : Sw 700 (dWt x) := by
  have w4 := tk.w1
  have r := h.r
  have we := h.we
  have we2 := b.1
  have k6 := kk.w
  have la : Sw 62 (dLa x.la) := by
    by_cases z : x.s.n = 0
    · rw [h.la0 z]
      exact Sw.mono (.tup sws_nil) (by decide)
    · obtain ⟨q, e, q1, q2⟩ := h.la1 z
      have q3 := b.2 q e
      rw [e]
      exact .tup (sws_cons (.int (by omega)) (sws_cons (.int (by omega)) sws_nil))
  have pa : Sw (31 * 5) (dI x.pa) := .dI (fun y hy => by rcases h.pb y hy with e | e <;> omega) (by rw [h.pl]; omega)
  exact Sw.mono (.tup (sws_cons (sw_sd tk ok h.s) (sws_cons (.int (by omega)) (sws_cons la (sws_cons (.int (by omega)) (sws_cons pa sws_nil)))))) (by decide)
theorem sw_out {t : Tk} {o : Op} {ch : Ch} {kd : Kd} {out : Out} (tk : TOk t) (ok : OOk t o) (kk : KOk kd) (h : Told t o ch kd out) : Sw 150000 (dOut out) := by
  rw [dOut_eq]
  suffices hs : Sw 140000 (dTh out) from Sw.mono (.tup (sws_cons (.nm out) (sws_cons hs sws_nil))) (by decide)
  cases out with
  | many => exact Sw.mono (.tup sws_nil) (by decide)
  | stalls road =>
    obtain ⟨ent, i, e, v, B, he, hv, hl, er⟩ := h
    have ro := road_ok kk B he hv hl
    rw [← er] at ro
    have s0 := kk.s0
    have sf := kk.sf
    have f := kk.f
    exact Sw.mono (.dI (k := 151) (fun x hx => by rcases ro.sf x hx with e | e <;> omega) ro.len) (by decide)
  | never ws =>
    obtain ⟨ent, B, ew, cl⟩ := h
    have lw : (sortW ws).length ≤ 150 := by
      rw [(sortW_perm ws).length_eq, ew]
      unfold keys
      rw [List.length_map]
      exact B.len
    refine Sw.mono (.tup ((sws_map (f := dWt) (m := 700) fun x hx => ?_).mono (Nat.mul_le_mul_left 701 lw))) (by decide)
    rw [sortW_mem, ew] at hx
    obtain ⟨e, he, rfl⟩ := List.mem_map.mp hx
    obtain ⟨i, hi⟩ := List.mem_iff_getElem?.mp he
    have hj := (List.getElem?_eq_some_iff.mp hi).1
    have hb := B.bd i e hi
    have bl := B.len
    exact sw_wt tk ok kk (B.ok e he) ⟨Int.le_trans hb.1 (by omega), fun q hq => Int.le_trans (hb.2 q hq) (by omega)⟩
theorem Lay.nm {n : Nat} {o : Out} : Lay n (.str (nmO o)) := by
  have h : ∀ x ∈ (["many", "stalls", "never"] : List Str), PyData.canLay0 (.str x) = true := by decide +kernel
  have hm : nmO o ∈ (["many", "stalls", "never"] : List Str) := by
    cases o
    · exact .head _
    · exact .tail _ (.head _)
    · exact .tail _ (.tail _ (.head _))
  exact ⟨h _ hm, by simp [PyData.depth]⟩
theorem lay_out (out : Out) : Lay 7 (dNever out) := by
  have h : Lay 5 (dTh out) := by
    cases out with
    | many => exact .tup (Lays.mem .nil)
    | stalls r => exact .dI
    | never ws =>
      refine .tup fun d hd => ?_
      obtain ⟨x, _, rfl⟩ := List.mem_map.mp hd
      exact (lay_wt x).mono (by decide)
  have h2 : Lay 6 (dOut out) := by
    rw [dOut_eq]
    exact .tup (Lays.mem (.cons .nm (.cons h .nil)))
  exact .tup (Lays.mem (.cons h2 (.cons .bool (.cons .bool .nil))))
/-! ### tools -/
section
variable {P : Program} {w : World} {K : PySem.W.Frag} {mg : Str → Option Value} {base : Heap} {Γ : Ctx} {ta tb tc td te : TE} {ts : TA} {A R R' : Ty} {Qs : List Ty} {a l : Addr} {n m c : Nat} {M M1 M2 : Hm} {D : Ends} {u : TS} {T : List NdefX.NTab}
theorem g2_eqS {x y : Str} : G2 rEq (tD K (.str x)) (tD K (.str y)) (tD K (.bool (decide (x = y)))) := fun v u H Q hx hy q => by
  rw [Du.str_inv hx, Du.str_inv hy]
  refine ⟨rfl, q _ H (.refl H) ?_⟩
  have e : decide (V.str x = V.str y) = decide (x = y) := decide_eq_decide.mpr ⟨fun z => V.str.inj z, fun z => by rw [z]⟩
  rw [e]
  exact .bl _
theorem g2_neS {x y : Str} : G2 rNe (tD K (.str x)) (tD K (.str y)) (tD K (.bool (!decide (x = y)))) := fun v u H Q hx hy q => by
  rw [Du.str_inv hx, Du.str_inv hy]
  refine ⟨rfl, q _ H (.refl H) ?_⟩
  have e : decide (V.str x = V.str y) = decide (x = y) := decide_eq_decide.mpr ⟨fun z => V.str.inj z, fun z => by rw [z]⟩
  rw [e]
  exact .bl _
theorem g2_eqS1 {x y : Str} (e : x = y) : G2 rEq (tD K (.str x)) (tD K (.str y)) (tD K (.bool true)) := by
  have z := g2_eqS (K := K) (x := x) (y := y)
  rw [decide_eq_true e] at z
  exact z
theorem g2_neS1 {x y : Str} (e : x = y) : G2 rNe (tD K (.str x)) (tD K (.str y)) (tD K (.bool false)) := by
  have z := g2_neS (K := K) (x := x) (y := y)
  rw [decide_eq_true e] at z
  exact z
/-- one of a few constants, by a draw -/
theorem gx_ixC {ns : List Int} (g : CtxFx Γ) (hs : ∀ σ H Q, Q (ns.map V.int) H → ts σ H Q) (hl : Nat.ble ns.length 100 = true) (hb : Gx a l m Γ tb (tI K (inT ns.length))) : Gx a l m Γ (tOp (rIxL K) (tLst ts) tb) (tI K (fun z => z ∈ ns)) := fun σ H Q c s d b q => by
  have hl := Nat.le_of_ble_eq_true hl
  refine hs σ H _ ⟨by rw [List.length_map, sizeLine_eq]; omega, fun p hp => ?_⟩
  have e1 : Same H (upd H p (.lst (ns.map V.int))) := same_new hp
  have na : p ≠ a := fun z => by obtain ⟨_, _, _, h1, _⟩ := d; rw [← z, hp] at h1; cases h1
  have nl : p ≠ l := fun z => by obtain ⟨_, _, _, _, h1, _⟩ := d; rw [← z, hp] at h1; cases h1
  refine hb σ _ _ c (s.up e1) (d.up e1) b fun y H2 e2 d2 ⟨i, ci, hy⟩ => ?_
  have hp2 : H2 p = some (.lst (ns.map V.int)) := e2 p _ na nl upd_same
  obtain ⟨h0, h1⟩ := ci
  have hi : i.toNat < ns.length := by omega
  have hg : ns[i.toNat]? = some ns[i.toNat] := List.getElem?_eq_getElem hi
  have ha : L2.atI (ns.map V.int) i = some (V.int ns[i.toNat]) := by
    have z := atI_nat (show (ns.map V.int)[i.toNat]? = some (V.int ns[i.toNat]) by rw [List.getElem?_map, hg]; rfl)
    rw [Int.toNat_of_nonneg h0] at z
    exact z
  exact ⟨p, _, i, _, rfl, Du.int_inv hy, SqL.of hp2, ha, q _ H2 ((SameD.of e1).trans e2) d2 ⟨_, List.getElem_mem hi, .int _⟩⟩
/-- a call of a def that draws, its arguments drawn -/
theorem gx_callX {ι : Type} {C : ι → Prop} {Pk : ι → List Ty} {Rk : ι → Ty} {i : Nat} (hi : Γ[i]? = some (some (tV (.ref a)))) (hs : Gxa a l m Γ ts Qs) (hx : ∀ ws H, Pv H Qs ws → ∃ x, C x ∧ Pv H (Pk x) ws ∧ ∀ v H, (Rk x).p v H → R.p v H) : Gx a l (m + n) Γ (tCall (spX C n Pk Rk) [] E0 (tCons (tVar i) ts)) R := fun σ H Q cc s d b q => by
  obtain ⟨v, h1, h2⟩ := s.at_ i _ hi
  obtain rfl : v = .ref a := h2
  refine ⟨_, h1, hs σ H _ cc s d (by omega) fun ws H1 e1 d1 h4 => ?_⟩
  obtain ⟨x, cx, hp, hr⟩ := hx ws H1 h4
  exact ⟨x, a, l, cc + m, ws, cx, by rw [List.append_nil], hp, d1, by omega, fun v H' e3 d3 hv => q v H' (e1.trans e3) (d3.mono (by omega)) (hr v H' hv)⟩
theorem qd_set {i : Nat} (g : CtxFx Γ) (h : Gx a l n Γ te A) (b : c + n ≤ 1000000) (k : Go (Hm.dt T a l (c + n)) (Γ.set i (some A)) D u) : Go (Hm.dt T a l c) Γ D (tSeq (tAsg te (gName i)) u) := qi_set g (gi_gx h b) k
theorem gi_tell {pl : List Int} (ha : Gv Γ ta (tD K (dI pl))) : GI (Hm.dt (T0 K) a l c) (Hm.dt (T0 K) a l c) Γ (tCall (spTelling P w K mg base) [] E0 (tCons ta tNil)) (tF P w K mg base 3 (spCh K pl.length (gTell pl))) := fun σ H Q mm s q =>
  ha σ H _ s fun v H1 e1 hv => by
    obtain ⟨d1, t1⟩ := (Hm.dt (T0 K) a l c).up e1 mm
    refine ⟨pl, .cons hv .nil, t1, fun v2 H2 e2 t2 hf => ?_⟩
    obtain ⟨cs, sd, ct, h1, h2, h3⟩ := d1
    exact q v2 H2 ((Im.of e1).trans fun b o hb fx => e2 b o hb fun ps z => by
      rw [z] at fx
      exact fx) ⟨⟨cs, sd, ct, e2 _ _ h1 (fun ps z => nomatch z), e2 _ _ h2 (fun ps z => nomatch z), h3⟩, t2⟩ hf
theorem GI.eq {d d' : PyData} (h : GI M M1 Γ te (tD K d)) (e : d = d') : GI M M1 Γ te (tD K d') := e ▸ h
theorem gai_one (gx : CtxFx Γ) (h : GI M M1 Γ te A) (fx : A.Fx) : GaI M M1 Γ (tCons te tNil) [A] := gai_cons gx fx h gai_nil
theorem gi_never {g : Gu} (gx : CtxFx Γ) (a1 : Gv Γ ta (tTalk K g.t)) (a2 : GI M M1 Γ tb (tCz P w K mg base g.t.N g.c)) (a3 : Gv Γ tc (tD K (dKd g.kd))) (a4 : Gv Γ td (tD K (dOp g.o))) (cc : GOk g ∧ Vch g.t g.ch) :
    GI M M1 Γ (tCall (spLNever P w K mg base) [] E0 (tCons ta (tCons tb (tCons tc (tCons td tNil))))) (tD K (dNever (gOut g))) := gi_call g (gai_cons gx tTalk_fx (gi_of a1) (gai_cons gx tCz_fx a2 (gai_of (ga_cons a3 (ga_cons a4 ga_nil))))) rfl cc
theorem gc_reprO {out : Out} (h : Sw 150000 (dOut out)) : Gc (rRepr K) [tD K (dNever out)] (tD K (.str (dNever out).shown)) :=
  gc_repr (n := 150010) (Sw.mono (.tup (sws_cons h (sws_cons .bool (sws_cons .bool sws_nil)))) (by decide)) (by decide) (lay_out out) (by decide)
end
end RP
set_option maxHeartbeats 4000000
namespace RP
open PySem PySem.Spec PyProof.Rows L2
section
variable {P : Program} {w : World} {K : PySem.W.Frag} {mg : Str → Option Value} {base : Heap} {Γ : Ctx} {ta tb tc td te : TE} {a l : Addr}
def spRight (K : PySem.W.Frag) : Sp := fun vs H Q _ => ∃ a l c, vs = [.ref a] ∧ Deck a l c H ∧ NdefX.TabsN (T0 K) H ∧ c + 200 ≤ 1000000 ∧ ∀ H', Deck a l (c + 200) H' → NdefX.TabsN (T0 K) H' → Q (.bl true) H'
/-- a talk, drawn -/
theorem gx_talk {i : Nat} {mo : Int} {ns : List Int} {ts : TA} (g : CtxFx Γ) (hi : Γ[i]? = some (some (tV (.ref a)))) (hm : 1 ≤ mo ∧ mo ≤ 6) (hs : ∀ σ H Q, Q (ns.map V.int) H → ts σ H Q) (hl : Nat.ble ns.length 100 = true) (h0 : 1 ≤ (ns.length : Int)) (hn : ∀ z ∈ ns, 1 ≤ z ∧ z ≤ 4) :
    Gx a l 33 Γ (tCall (spTalkX K) [] E0 (tCons (tVar i) (tCons (tC (.int mo)) (tCons (tOp (rIxL K) (tLst ts) (tCall (spDraw K) [] E0 (tCons (tVar i) (tCons (tC (.int ns.length)) tNil)))) tNil)))) (tE (fun t : Tk => TOk t) (tTalk K)) :=
  have hl' := Nat.le_of_ble_eq_true hl
  (gx_callX (m := 0 + 1) (n := 32) hi (gxa_cons g tD_fx (gx_of gv_int) (gxa_one (gx_ixC g hs hl (gx_draw hi gv_int h0 (by omega))))) fun ws H hv => by
    cases hv with
    | cons h1 t1 =>
      obtain ⟨u, e, z, hz, h2⟩ := t1.one
      subst e
      exact ⟨(mo, z), ⟨hm, hn z hz⟩, .cons h1 (.cons h2 .nil), fun v H h => h⟩)
theorem gx_opts {t : Tk} {i : Nat} (hi : Γ[i]? = some (some (tV (.ref a)))) (h : Gv Γ te (tTalk K t)) (tk : TOk t) : Gx a l 4 Γ (tCall (spOpts K) [] E0 (tCons (tVar i) (tCons te tNil))) (tE (fun o : Op => OOk t o) fun o => tD K (dOp o)) := gx_call t hi (ga_cons h ga_nil) rfl tk
theorem gx_1draw {i : Nat} {top : Int} (g : CtxFx Γ) (hi : Γ[i]? = some (some (tV (.ref a)))) (k : Int) (ht : 1 ≤ top ∧ top < 1000000) : Gx a l 1 Γ (tOp (rI0 fun i j => .int (i + j)) (tC (.int k)) (tCall (spDraw K) [] E0 (tCons (tVar i) (tCons (tC (.int top)) tNil)))) (tI K fun z => k ≤ z ∧ z < k + top) :=
  gx_i0 (n := 0) (C1 := fun z => z = k) (C2 := inT top) g (gx_int rfl) (gx_draw hi gv_int ht.1 ht.2) fun i j h1 h2 => by
    obtain ⟨h3, h4⟩ := h2
    omega
abbrev plOk (t : Tk) (pl : List Int) : Prop := pl.length = t.len.length ∧ ∀ r ∈ pl, 0 ≤ r ∧ r < (t.W : Int)
theorem gx_plan {T : Txt K mg} {t : Tk} {i j k : Nat} (g : CtxFx Γ) (g2 : ∀ z : Int, CtxFx ((Γ.set k none).set k (some (tD K (.int z))))) (hi : ∀ z : Int, ((Γ.set k none).set k (some (tD K (.int z))))[i]? = some (some (tV (.ref a)))) (hj : Γ[j]? = some (some (tTalk K t))) (hj2 : ∀ z : Int, ((Γ.set k none).set k (some (tD K (.int z))))[j]? = some (some (tTalk K t))) (tk : TOk t) :
    Gx a l 6 Γ (tCB (rTupOf K) (tCons (tLc (iTup K (tFld K (tVar j) "lengths")) (gName k) tYes (tCall (spDraw K) [] E0 (tCons (tVar i) (tCons (tMeth (cTalk K) "many_rates" (spMany K) [] E0 (tVar j) tNil) tNil))) [k]) tNil)) (tE (plOk t) fun pl => tD K (dI pl)) := by
  have n6 : t.len.length ≤ 6 := tk.le
  have w4 := tk.w1
  exact (Gx.mono (gx_cb (gxa_one (gx_lc (ι := Int) (C := fun r => 0 ≤ r ∧ r < (t.W : Int)) (f := .int) (n := t.len.length) (m := 1) (T := fun i => tD K (.int (t.len.getD i 0))) g (fun _ => tD_fx) (gi_ints (gv_Talk_lengths T (gv_var hj))) (by omega)
    fun z hz => gx_draw (hi _) (r_many tk (gv_var (hj2 _))) (by omega) (by omega))) gc_tupE) (by omega))
theorem sc_law_nevers_right : FnScope ["_law_deck_here", "_law_talk_here", "_law_options_here", "_law_wide", "_law_kind", "_law_plan", "_law_length", "_law_due", "_law_noughts"] ["_law_deck_here"] (defScope s_law_nevers_right) := ⟨rfl, rfl, rfl, by decide +kernel, rfl, by decide +kernel, by decide +kernel⟩
theorem c_law_nevers_right (T : Txt K mg) (TB : LamX.TabB base mg (He.cT K tdn).1 (He.cT K tdn).2) : CalG P w K mg base "_law_nevers_right" 11 (spRight K) := by
  obtain ⟨fd, F⟩ := T.d_law_nevers_right
  refine ⟨_, fd, ["_law_deck_here"], ?_, T.g_law_nevers_right, F.kp, F.bindsN (fun _ _ _ _ _ _ us hl => match us, hl with | [_], _ => rfl)⟩
  refine okG F sc_law_nevers_right (fun vs H Q E ⟨a, l, c, e, _⟩ => by rw [e]; rfl) fun cdv A outer s H vs Q E hg hr ⟨a, l, c, e, d, tb, cb, q⟩ => ?_
  subst e
  refine ⟨_, PSs.nox (pss_cons (ps_set (i := 1) sc_law_nevers_right.nd rfl (Or.inr rfl) (pe_cal (c_law_talk T) hr (by decide) rfl (pa_cons (pv 0) (pa_cons pe_int (pa_cons (pe_ix (r := rIxL K) ix_list (pe_lst (pa_cons pe_int (pa_cons pe_int pa_nil))) (pe_cal (c_law_draw T) hr (by decide) rfl (pa_cons (pv 0) (pa_cons pe_int pa_nil))) (fun _ _ => rfl)) pa_nil))))) (pss_cons (ps_set (i := 2) sc_law_nevers_right.nd rfl (Or.inl rfl) (pe_cal (c_law_options T) hr (by decide) rfl (pa_cons (pv 0) (pa_cons (pv 1) pa_nil)))) (pss_cons (ps_set (i := 3) sc_law_nevers_right.nd rfl (Or.inl rfl) (pe_op op_add pe_int (pe_cal (c_law_draw T) hr (by decide) rfl (pa_cons (pv 0) (pa_cons pe_int pa_nil))))) (pss_cons (ps_set (i := 4) sc_law_nevers_right.nd rfl (Or.inl rfl) (pe_tup (pa_cons (pe_cal (c_law_draw T) hr (by decide) rfl (pa_cons (pv 0) (pa_cons pe_int pa_nil))) (pa_cons (pe_op op_add pe_int (pe_cal (c_law_draw T) hr (by decide) rfl (pa_cons (pv 0) (pa_cons pe_int pa_nil)))) (pa_cons (pe_cal (c_law_draw T) hr (by decide) rfl (pa_cons (pv 0) (pa_cons (pv 3) pa_nil))) (pa_cons (pv 3) pa_nil)))))) (pss_cons (ps_set (i := 5) sc_law_nevers_right.nd rfl (Or.inl rfl) (pe_callTy (T := "tuple") (r := rTupOf K) call_tuple_of (by rfl) T.f_tuple (by decide +kernel) (pa_cons (pe_lc (own := [("_law_length", 6)]) (g := gName 6) (tt := tYes) (by rfl) sc_law_nevers_right.nd (pi_tup (pe_fld (pv 1) rfl)) (blkOk_by (own := [("_law_length", 6)]) (N := ["_law_deck_here", "_law_talk_here", "_law_options_here", "_law_wide", "_law_kind", "_law_plan", "_law_length", "_law_due", "_law_noughts"]) (sc := defScope s_law_nevers_right) (by decide +kernel)) (fun _ _ _ _ _ => pg_name (i := 6) sc_law_nevers_right.nd rfl (Or.inl rfl)) (fun _ _ _ _ _ => pts_nil) (fun _ _ _ _ _ => (pe_cal (c_law_draw (P := P) (w := w) (base := base) T) hr (by decide) rfl (pa_cons (pv 0) (pa_cons (pe_calM0 (c_Talk_many_rates (P := P) (w := w) (base := base) T) T.c_Talk hr (by decide) (pv 1)) pa_nil))))) pa_nil))) (pss_cons (ps_set (i := 7) sc_law_nevers_right.nd rfl (Or.inl rfl) (pe_cal (c_law_never T) hr (by decide) rfl (pa_cons (pv 1) (pa_cons (pv 5) (pa_cons (pv 4) (pa_cons (pv 2) pa_nil)))))) (pss_cons (ps_if (pt_cmpR op_ne (pe_callB (id := "repr") (call_repr hg hr.units) (by rfl) T.f_repr (by decide +kernel) (pa_cons (pe_cal (c_law_never T) hr (by decide) rfl (pa_cons (pv 1) (pa_cons (pe_cal (c_law_telling T TB) hr (by decide) rfl (pa_cons (pv 5) pa_nil)) (pa_cons (pv 4) (pa_cons (pv 2) pa_nil))))) pa_nil)) (pe_callB (id := "repr") (call_repr hg hr.units) (by rfl) T.f_repr (by decide +kernel) (pa_cons (pv 7) pa_nil)) (nomark _)) (pss_one (ps_ret pe_bl)) pss_nil) (pss_cons (ps_if (pt_cmpR op_ne (pe_callB (id := "repr") (call_repr hg hr.units) (by rfl) T.f_repr (by decide +kernel) (pa_cons (pe_slice (r := rSlA K) sl_tupA (pv 7) (po_some pe_int) po_none) pa_nil)) (pe_callB (id := "repr") (call_repr hg hr.units) (by rfl) T.f_repr (by decide +kernel) (pa_cons (pe_tup (pa_cons (pe_cmpR op_eq (pe_ix (r := rIxT K) ix_tup (pe_ix (r := rIxT K) ix_tup (pv 7) pe_int (fun _ _ => rfl)) pe_int (fun _ _ => rfl)) pe_str (nomark _)) (pa_cons (pe_cmpR op_eq (pe_ix (r := rIxT K) ix_tup (pe_ix (r := rIxT K) ix_tup (pv 7) pe_int (fun _ _ => rfl)) pe_int (fun _ _ => rfl)) pe_str (nomark _)) pa_nil))) pa_nil)) (nomark _)) (pss_one (ps_ret pe_bl)) pss_nil) (pss_cons (ps_set (i := 8) sc_law_nevers_right.nd rfl (Or.inl rfl) (pe_op (r := rRep1 K) op_rep1 (pe_tup (pa_cons pe_int pa_nil)) (pe_callB (id := "len") (r := rLn K) call_len_seq (by rfl) T.f_len (by decide +kernel) (pa_cons (pv 5) pa_nil)))) (pss_one (ps_ret (pe_cmpR op_eq (pe_callB (id := "repr") (call_repr hg hr.units) (by rfl) T.f_repr (by decide +kernel) (pa_cons (pe_cal (c_law_never T) hr (by decide) rfl (pa_cons (pv 1) (pa_cons (pe_glob (v := .ref (He.ga K "_law_odd")) rfl T.g_law_odd rfl) (pa_cons (pv 4) (pa_cons (pv 2) pa_nil))))) pa_nil)) (pe_callB (id := "repr") (call_repr hg hr.units) (by rfl) T.f_repr (by decide +kernel) (pa_cons (pe_cal (c_law_never T) hr (by decide) rfl (pa_cons (pv 1) (pa_cons (pv 8) (pa_cons (pv 4) (pa_cons (pv 2) pa_nil))))) pa_nil)) (nomark _))))))))))))), ?_⟩
  refine go_run (M := Hm.dt (T0 K) a l c) ?_ ⟨d, tb⟩ (Pv.cons (P := tV (.ref a)) rfl .nil).ent
  try dsimp only [Cx.nox, cxOf, ent, List.map, List.length_cons, List.length_nil, List.replicate_succ, List.replicate_zero, List.cons_append, List.nil_append, List.set]
  have nn : ∀ {Γ : Ctx}, CtxFx Γ → CtxFx (none :: Γ) := .no
  refine qd_set (.yes tV_fx (.no (.no (.no (.no (.no (.no (.no (.no .nil))))))))) (gx_talk (ns := [1, 3]) (.yes tV_fx (.no (.no (.no (.no (.no (.no (.no (.no .nil))))))))) rfl ⟨by decide, by decide⟩ (fun σ H Q q => q) rfl (by decide) (by decide)) (by omega) ?_
  try dsimp only [List.set]
  refine go_open (i := 1) rfl fun t tk => ?_
  try dsimp only [List.set]
  have tk : TOk t := tk
  have n6 : t.len.length ≤ 6 := tk.le
  have w4 := tk.w1
  refine qd_set (.yes tV_fx (.yes tTalk_fx (.no (.no (.no (.no (.no (.no (.no .nil))))))))) (gx_opts rfl (gv_var rfl) tk) (by omega) ?_
  try dsimp only [List.set]
  refine go_open (i := 2) rfl fun o ok => ?_
  try dsimp only [List.set]
  have ok : OOk t o := ok
  refine qd_set (.yes tV_fx (.yes tTalk_fx (.yes tD_fx (.no (.no (.no (.no (.no (.no .nil))))))))) (gx_1draw (top := 4) (.yes tV_fx (.yes tTalk_fx (.yes tD_fx (.no (.no (.no (.no (.no (.no .nil))))))))) rfl 1 ⟨by decide, by decide⟩) (by omega) ?_
  try dsimp only [List.set]
  refine go_open (i := 3) rfl fun wd hw => ?_
  try dsimp only [List.set]
  have hw : 1 ≤ wd ∧ wd < 1 + 4 := hw
  obtain ⟨wn, rfl⟩ : ∃ wn : Nat, wd = (wn : Int) := ⟨wd.toNat, by omega⟩
  have g4 : CtxFx [some (tV (.ref a)), some (tTalk K t), some (tD K (dOp o)), some (tD K (.int wn)), none, none, none, none, none] := .yes tV_fx (.yes tTalk_fx (.yes tD_fx (.yes tD_fx (.no (.no (.no (.no (.no .nil))))))))
  refine qd_set (A := tE (fun kd : Kd => KOk kd) fun kd => tD K (dKd kd)) g4 (Gx.le (gx_tupT (K := K) (Ps := [tI K (inT 2), tI K fun z => 2 ≤ z ∧ z < 2 + 4, tI K (inT wn), tI K fun z => z = wn]) (gxa_cons g4 tI_fx (gx_draw rfl gv_int (by decide) (by decide)) (gxa_cons g4 tI_fx (gx_1draw (top := 4) g4 rfl 2 ⟨by decide, by decide⟩) (gxa_cons g4 tI_fx (gx_draw rfl (gv_var rfl) (by omega) (by omega)) (gxa_one (gx_iv (gv_var rfl) rfl))))) rfl) fun v H h => ?_) (by omega) ?_
  · obtain ⟨i, j, k, n, h1, h2, h3, h4, h5⟩ := tT4 h
    have h3 : 0 ≤ k ∧ k < (wn : Int) := h3
    have h4 : n = (wn : Int) := h4
    subst h4
    have h1 : 0 ≤ i ∧ i < 2 := h1
    exact ⟨⟨i, j, k, wn⟩, ⟨h1.1, by show i < j; omega, by show j ≤ 100; omega, h3.1, h3.2, by show wn ≤ 6; omega⟩, h5⟩
  try dsimp only [List.set]
  refine go_open (i := 4) rfl fun kd kk => ?_
  try dsimp only [List.set]
  have kk : KOk kd := kk
  refine qd_set (.yes tV_fx (.yes tTalk_fx (.yes tD_fx (.yes tD_fx (.yes tD_fx (.no (.no (.no (.no .nil))))))))) (gx_plan (T := T) (.yes tV_fx (.yes tTalk_fx (.yes tD_fx (.yes tD_fx (.yes tD_fx (.no (.no (.no (.no .nil))))))))) (fun z => .yes tV_fx (.yes tTalk_fx (.yes tD_fx (.yes tD_fx (.yes tD_fx (.no (.yes tD_fx (.no (.no .nil))))))))) (fun z => rfl) rfl (fun z => rfl) tk) (by omega) ?_
  try dsimp only [List.set]
  refine go_open (i := 5) rfl fun pl hp => ?_
  try dsimp only [List.set]
  obtain ⟨hp1, hp2⟩ : plOk t pl := hp
  have gk1 : GOk ⟨t, o, kd, .plan pl⟩ := ⟨tk, ok, kk, hp1⟩
  have vc1 : Vch t (chOf t (.plan pl)) := vch_plan hp1 hp2
  have gk2 : GOk ⟨t, o, kd, .fn (gTell pl)⟩ := ⟨tk, ok, kk, gTell_flat pl⟩
  have gk3 : GOk ⟨t, o, kd, .fn gOdd⟩ := ⟨tk, ok, kk, gOdd_flat⟩
  have gk4 : GOk ⟨t, o, kd, .plan (List.replicate pl.length 0)⟩ := ⟨tk, ok, kk, by show (List.replicate pl.length (0 : Int)).length = t.len.length; rw [List.length_replicate]; exact hp1⟩
  have vc4 : Vch t (chOf t (.plan (List.replicate pl.length 0))) := vch_plan gk4.c fun r hr => by
    rw [List.eq_of_mem_replicate hr]
    omega
  have e2 : gOut ⟨t, o, kd, .fn (gTell pl)⟩ = gOut ⟨t, o, kd, .plan pl⟩ := by
    show search t o (chOf t (.fn (gTell pl))) kd = search t o (chOf t (.plan pl)) kd
    rw [chOf_tell hp1 hp2]
  have e3 : gOut ⟨t, o, kd, .fn gOdd⟩ = gOut ⟨t, o, kd, .plan (List.replicate pl.length 0)⟩ := by
    show search t o (chOf t (.fn gOdd)) kd = search t o (planCh (List.replicate pl.length 0)) kd
    rw [chOf_odd tk, zero_plan]
  have sw : ∀ {g : Gu}, GOk g → Vch g.t g.ch → Sw 150000 (dOut (gOut g)) := fun gk vc => sw_out gk.t gk.o gk.k (search_told gk.t gk.o vc gk.k)
  refine q_set (r_never (g := ⟨t, o, kd, .plan pl⟩) (gv_var rfl) (gv_var rfl) (gv_var rfl) (gv_var rfl) ⟨gk1, vc1⟩) ?_
  try dsimp only [List.set]
  have g6 : CtxFx [some (tV (.ref a)), some (tTalk K t), some (tD K (dOp o)), some (tD K (.int wn)), some (tD K (dKd kd)), some (tD K (dI pl)), none, some (tD K (dNever (gOut ⟨t, o, kd, .plan pl⟩))), none] := .yes tV_fx (.yes tTalk_fx (.yes tD_fx (.yes tD_fx (.yes tD_fx (.yes tD_fx (.no (.yes tD_fx (.no .nil))))))))
  refine qi_when (b := false) g6 (gbi_val (gi_op g6 tD_fx (gi_cb (gai_one g6 (gi_never (g := ⟨t, o, kd, .fn (gTell pl)⟩) g6 (gv_var rfl) ((gi_tell (pl := pl) (gv_var rfl)).to fun v H h => by
    rw [hp1] at h
    exact h) (gv_var rfl) (gv_var rfl) ⟨gk2, vch_fn tk _⟩) tD_fx) (gc_reprO (sw gk2 (vch_fn tk _)))) (gi_of (gv_cb1 (gv_var rfl) (gc_reprO (sw gk1 vc1)))) (g2_neS1 (by rw [e2])))) (fun h => nomatch h) (fun _ => ?_)
  generalize hO : gOut ⟨t, o, kd, .plan pl⟩ = out at g6 ⊢
  have hx : ∀ {Γ : Ctx} {te : TE}, Gv Γ te (tD K (dNever out)) → Gv Γ (tOp (rIxT K) (tOp (rIxT K) te (tC (.int 0))) (tC (.int 0))) (tD K (.str (nmO out))) := fun h => gv_ixN (j := 0) ((gv_ixN (j := 0) h gv_int rfl rfl).eq (dOut_eq out)) gv_int rfl rfl
  have es : ((nmO out = "never" : Prop) ↔ isNev out = true) ∧ ((nmO out = "stalls" : Prop) ↔ isSta out = true) := by
    cases out with
    | many => exact ⟨⟨fun h => absurd h (by decide +kernel), fun h => nomatch h⟩, ⟨fun h => absurd h (by decide +kernel), fun h => nomatch h⟩⟩
    | stalls r => exact ⟨⟨fun h => absurd h (by show ¬ ("stalls" : Str) = "never"; decide +kernel), fun h => nomatch h⟩, ⟨fun _ => rfl, fun _ => rfl⟩⟩
    | never ws => exact ⟨⟨fun _ => rfl, fun _ => rfl⟩, ⟨fun h => absurd h (by show ¬ ("never" : Str) = "stalls"; decide +kernel), fun h => nomatch h⟩⟩
  have e4 : decide (nmO out = "never") = isNev out := by
    cases h : isNev out with
    | true => exact decide_eq_true (es.1.mpr h)
    | false => exact decide_eq_false fun z => by rw [es.1.mp z] at h; cases h
  have e5 : decide (nmO out = "stalls") = isSta out := by
    cases h : isSta out with
    | true => exact decide_eq_true (es.2.mpr h)
    | false => exact decide_eq_false fun z => by rw [es.2.mp z] at h; cases h
  have swB : ∀ {x y : Bool}, Sw 2 (.tuple [.bool x, .bool y]) := .tup (sws_cons .bool (sws_cons .bool sws_nil))
  have lyB : ∀ {x y : Bool}, Lay 2 (.tuple [.bool x, .bool y]) := .tup (Lays.mem (.cons .bool (.cons .bool .nil)))
  refine q_when (b := false) (gb_val (gv_op (gv_cb1 (Gv.eq (gv_slice (ds := [dOut out, .bool (isNev out), .bool (isSta out)]) (lo := some 1) (hi := none) (gv_var rfl) (go1_some (gv_int (K := K))) go1_none) (by rw [cut_tail]; rfl : _ = PyData.tuple [.bool (isNev out), .bool (isSta out)])) (gc_repr swB (by decide) lyB (by decide))) (gv_cb1 (gv_tupd (gd_cons (gv_op (hx (gv_var rfl)) gv_str g2_eqS) (gd_cons (gv_op (hx (gv_var rfl)) gv_str g2_eqS) gd_nil)) rfl) (gc_repr swB (by decide) lyB (by decide))) (g2_neS1 (by rw [e4, e5])))) (fun h => nomatch h) (fun _ => ?_)
  refine q_set (P := tD K (dI (List.replicate pl.length 0))) ((gv_rep (d := .int 0) (k := (pl.length : Nat)) (gv_tupd (gd_cons gv_int gd_nil) rfl) (Gv.eq (gv_cb1 (gv_var rfl) (gc_len (ds := pl.map .int))) (by rw [List.length_map])) (by omega)).eq (by rw [Int.toNat_natCast, dI, List.map_replicate])) ?_
  try dsimp only [List.set]
  have g7 : CtxFx [some (tV (.ref a)), some (tTalk K t), some (tD K (dOp o)), some (tD K (.int wn)), some (tD K (dKd kd)), some (tD K (dI pl)), none, some (tD K (dNever out)), some (tD K (dI (List.replicate pl.length 0)))] := .yes tV_fx (.yes tTalk_fx (.yes tD_fx (.yes tD_fx (.yes tD_fx (.yes tD_fx (.no (.yes tD_fx (.yes tD_fx .nil))))))))
  refine gi_ret (P := tD K (.bool true)) (gi_of (gv_op (gv_cb1 (r_never (g := ⟨t, o, kd, .fn gOdd⟩) (gv_var rfl) (gv_c fun H => cz_odd T tk.le H) (gv_var rfl) (gv_var rfl) ⟨gk3, vch_fn tk _⟩) (gc_reprO (sw gk3 (vch_fn tk _)))) (gv_cb1 (r_never (g := ⟨t, o, kd, .plan (List.replicate pl.length 0)⟩) (gv_var rfl) (gv_var rfl) (gv_var rfl) (gv_var rfl) ⟨gk4, vc4⟩) (gc_reprO (sw gk4 vc4))) (g2_eqS1 (by rw [e3])))) fun v H' m' hv => ?_
  rw [Du.bl_inv hv]
  exact q H' (m'.1.mono (by omega)) m'.2
end
end RP
set_option maxHeartbeats 4000000
namespace RP
open PySem PySem.Spec PyProof.Rows L2
/-! ### roads drawn -/
theorem rsp_pos {z : Int} (hz : 0 ≤ z) : ∀ {ps : List (Int × Int)} (x : Int), (∀ q ∈ ps, 0 ≤ q.2) → 0 ≤ rsp z ps x
  | [], _, _ => hz
  | q :: ps, x, h => by
    unfold rsp
    split
    · exact h q (.head _)
    · exact rsp_pos hz _ fun r hr => h r (.tail _ hr)
theorem rsp_last {z : Int} : ∀ {ps : List (Int × Int)} (x : Int), (∀ q ∈ ps, q.1 ≤ 9) → 9 * (ps.length : Int) ≤ x → rsp z (ps ++ [(1, z)]) x = z
  | [], x, _, _ => by
    show (if x < 1 then z else z) = z
    split <;> rfl
  | q :: ps, x, h, hx => by
    have h9 := h q (.head _)
    have hl : ((q :: ps).length : Int) = ps.length + 1 := by simp
    show (if x < q.1 then q.2 else rsp z (ps ++ [(1, z)]) (x - q.1)) = z
    rw [hl] at hx
    rw [if_neg (by omega)]
    exact rsp_last _ (fun r hr => h r (.tail _ hr)) (by omega)
theorem lastV_snoc {ps : List (Int × Int)} {z : Int} : lastV (ps ++ [(1, z)]) = z := by
  unfold lastV
  rw [List.getLastD_eq_getLast?, List.getLast?_concat]
  rfl
theorem rd_pieces {ps : List (Int × Int)} {z : Int} (h : ∀ q ∈ ps, (1 ≤ q.1 ∧ q.1 ≤ 9) ∧ 0 ≤ q.2) (hl : ps.length ≤ 5) (hz : 1 ≤ z) : Rd1 (spOf (ps ++ [(1, z)])) 46 := by
  refine ⟨fun i => ?_, fun i hi => ?_, by decide⟩
  · unfold spOf
    rw [lastV_snoc]
    refine rsp_pos (by omega) _ fun q hq => ?_
    rcases List.mem_append.mp hq with hq | hq
    · exact (h q hq).2
    · have e : q = (1, z) := by simpa using hq
      rw [e]
      show 0 ≤ z
      omega
  · unfold spOf
    rw [lastV_snoc, rsp_last _ (fun q hq => (h q hq).1.2) (by omega)]
    exact hz
/-! ### speeds told to a tape -/
def tdK (spd : Nat → Int) : Nat → Kv
  | 0 => []
  | k + 1 => putK (tdK spd k) (.inl ((k : Nat) : Int)) (.int (spd k))
theorem putK_len (kvs : Kv) (k : Key) (v : V) : (putK kvs k v).length ≤ kvs.length + 1 := by
  unfold putK
  split
  · rw [List.length_map]
    omega
  · rw [List.length_append]
    exact Nat.le_refl _
theorem tdK_len (spd : Nat → Int) : ∀ k, (tdK spd k).length ≤ k
  | 0 => Nat.le_refl _
  | k + 1 => Nat.le_trans (putK_len _ _ _) (Nat.succ_le_succ (tdK_len spd k))
theorem tdK_ok {spd : Nat → Int} (pos : ∀ i, 0 ≤ spd i) : ∀ k, KvOk (tdK spd k)
  | 0 => kvOk_nil
  | k + 1 => kvOk_put (tdK_ok pos k) (pos k)
theorem tdK_pace {spd : Nat → Int} : ∀ {k i : Nat}, i < k → paceOf (tdK spd k) (i : Int) = spd i
  | 0, i, h => absurd h (Nat.not_lt_zero i)
  | k + 1, i, h => by
    show paceOf (putK (tdK spd k) (.inl ((k : Nat) : Int)) (.int (spd k))) (i : Int) = spd i
    rw [pace_put]
    by_cases e : i = k
    · rw [e, if_pos rfl]
    · rw [if_neg (by omega)]
      exact tdK_pace (by omega)
/-! ### tools for drawing -/
section
variable {K : PySem.W.Frag} {Γ Γ' Γs : Ctx} {ta tb tn te : TE} {ts : TA} {A B P R : Ty} {Ps : List Ty} {a l p : Addr} {n m c k j i : Nat} {M : Hm} {D : Ends} {u t : TS} {T : List NdefX.NTab} {g : TG}
/-- [e for x in range(n)], n drawn -/
theorem gx_lcR {ι : Type} {C : ι → Prop} {f : ι → PyData} {N : Nat} (g : CtxFx Γ) (hN : N ≤ 1000) (hn : Gx a l m Γ tn (tI K fun z => 1 ≤ z ∧ z ≤ (N : Int)))
    (he : ∀ i : Nat, Gx a l k ((Γ.set j none).set j (some (tD K (.int (i : Nat))))) te (tE C fun x => tD K (f x))) :
    Gx a l (m + N * k) Γ (tLc (iRng1 (tCons tn tNil)) (gName j) tYes te [j]) (tE (fun is : List ι => (1 ≤ is.length ∧ is.length ≤ N) ∧ ∀ x ∈ is, C x) fun is => tL K (is.map f)) := fun σ H Q c s d b q => by
  show tn σ H fun v H1 => tLc (iRng1 (tCons (tC v) tNil)) (gName j) tYes te [j] σ H1 Q
  refine hn σ H _ c s d (by omega) fun v H1 e1 d1 ⟨z, cz, hz⟩ => ?_
  obtain rfl := Du.int_inv hz
  obtain ⟨n, rfl⟩ : ∃ n : Nat, z = (n : Int) := ⟨z.toNat, by omega⟩
  have hnN : n ≤ N := by omega
  have hb : n * k ≤ N * k := Nat.mul_le_mul_right k hnN
  refine gx_lc (ι := ι) (C := C) (f := f) (n := n) (m := k) (T := fun i => tD K (.int (i : Nat))) g (fun _ => tD_fx) (gi_rng (n := (n : Int)) (ga_cons gv_int ga_nil) ⟨by omega, by omega⟩ fun _ => rfl) (by omega) (fun i hi => he i) σ H1 Q (c + m) (g.sat s (e1.im d)) d1 (by omega) fun v H' e2 d2 ⟨is, ⟨h1, h2⟩, h3⟩ => ?_
  exact q v H' (e1.trans e2) (d2.mono (by omega)) ⟨is, ⟨by omega, h2⟩, h3⟩
/-- the left one, as it stands, then one that draws -/
theorem gx_opL {r : R2} (fx : A.Fx) (wk : ∀ σ H, Sat Γ σ H → Sat Γ' σ H) (ha : Gv Γ ta A) (hb : Gx a l m Γ' tb B) (hr : G2 r A B P) : Gx a l m Γ (tOp r ta tb) P := fun σ H Q c s d b q =>
  ha σ H _ s fun x H1 e1 hx => hb σ H1 _ c (wk σ H1 (s.up e1)) (d.up e1) b fun y H2 e2 d2 hy => hr x y H2 Q (fx (e2.im (d.up e1)) hx) hy fun v H3 e3 hv => q v H3 (((SameD.of e1).trans e2).trans (.of e3)) (d2.up e3) hv
theorem qd_setW {i : Nat} (wk : ∀ σ H, Sat Γ σ H → Sat Γ' σ H) (g : CtxFx Γ') (h : Gx a l n Γ te A) (b : c + n ≤ 1000000) (k : Go (Hm.dt T a l (c + n)) (Γ'.set i (some A)) D u) : Go (Hm.dt T a l c) Γ D (tSeq (tAsg te (gName i)) u) := fun σ H m s =>
  h σ H _ c s m.1 b fun v H' e d hv => k _ H' ⟨d, tabs_same m.2 e m.1⟩ ((g.sat (wk σ H s) (e.im m.1)).set i hv)
theorem gx_tupE {ι : Type} {C : ι → Prop} {f : ι → List PyData} (h : Gxa a l n Γ ts Ps) (hl : Nat.ble Ps.length 16777216 = true) (hx : ∀ vs H, Pv H Ps vs → ∃ x, C x ∧ Dus K H vs (f x)) : Gx a l n Γ (tTup ts) (tE C fun x => tD K (.tuple (f x))) := fun σ H Q c s d b q =>
  h σ H _ c s d b fun vs H1 e1 d1 h1 => ⟨by rw [h1.len, sizeLine_eq]; exact Nat.le_of_ble_eq_true hl, fun p hp => by
    obtain ⟨x, cx, hd⟩ := hx vs H1 h1
    exact q _ _ (e1.trans (.of (same_new hp))) (d1.up (same_new hp)) ⟨x, cx, .tup (SqT.of upd_same) (hd.im (.of (same_new hp)))⟩⟩
theorem go_to {P R : Ty} (h : Γ[i]? = some (some P)) (k : ∀ v H, M.p H → P.p v H → R.p v H) (g : Go M (Γ.set i (some R)) D t) : Go M Γ D t := fun σ H m s => by
  obtain ⟨v, h1, h2⟩ := s.at_ i _ h
  have e : σ.set i (some v) = σ := by
    apply List.ext_getElem?
    intro j
    rw [List.getElem?_set]
    by_cases q : i = j
    · subst q
      rw [if_pos rfl, h1]
      by_cases ll : i < σ.length
      · rw [if_pos ll]
      · rw [List.getElem?_eq_none (by omega)] at h1
        cases h1
    · rw [if_neg q]
  have s2 := s.set (P := R) i (k v H m h2)
  rw [e] at s2
  exact g σ H m s2
theorem gi_rngN {n : Nat} {T : Nat → Ty} (he : Ga Γ ts [tD K (.int (n : Nat))]) (hn : n < 2 ^ 61) (hT : ∀ i : Nat, T i = tD K (.int (i : Nat))) : Gi Γ (iRng1 ts) n T := gi_rng (n := (n : Int)) he ⟨by omega, by omega⟩ hT
/-! ### a list of things, the deck beside it -/
theorem tabs_but {H H' : Hp} {d : Addr} {o0 : HO} (t : NdefX.TabsN T H) (hd : H d = some o0) (n1 : ∀ ps, o0 ≠ .tbl ps) (n2 : ∀ φ, o0 ≠ .ext φ) (e : ∀ b o, b ≠ d → H b = some o → H' b = some o) : NdefX.TabsN T H' := fun p hp => by
  obtain ⟨ps, h1, h2, h3⟩ := t p hp
  refine ⟨ps, e _ _ (fun z => ?_) h1, h2, fun pos cv hc => ?_⟩
  · rw [z, hd] at h1
    exact n1 _ (Option.some.inj h1)
  · obtain ⟨c', e1, e2⟩ := h3 pos cv hc
    refine ⟨c', e1, e _ _ (fun z => ?_) e2⟩
    rw [z, hd] at e2
    exact n2 _ (Option.some.inj e2)
def Hm.ls (T : List NdefX.NTab) (a l : Addr) (c : Nat) (p : Addr) (P : Ty) (k : Nat) : Hm := ⟨fun H => (Deck a l c H ∧ NdefX.TabsN T H) ∧ (p ≠ a ∧ p ≠ l) ∧ ∃ xs, H p = some (.lst xs) ∧ xs.length = k ∧ ∀ x ∈ xs, P.p x H,
  fun e ⟨h, n, xs, h1, h2, h3⟩ => ⟨⟨h.1.up e, h.2.ext e⟩, n, xs, e _ _ h1, h2, fun x hx => P.up e (h3 x hx)⟩⟩
theorem deck_ne {H : Hp} (d : Deck a l c H) (hp : H p = none) : p ≠ a ∧ p ≠ l := by
  obtain ⟨_, _, _, h1, h2, _⟩ := d
  refine ⟨fun z => ?_, fun z => ?_⟩
  · rw [← z, hp] at h1
    cases h1
  · rw [← z, hp] at h2
    cases h2
theorem q_lnew {i : Nat} (gx : CtxFx Γ) (hs : GaI (Hm.dt T a l c) (Hm.dt T a l c) Γ ts Ps) (hp : ∀ H vs, Pv H Ps vs → ∀ x ∈ vs, P.p x H) (hl : Nat.ble Ps.length 100 = true) (k : ∀ p, Go (Hm.ls T a l c p P Ps.length) (Γ.set i (some (tV (.ref p)))) D u) : Go (Hm.dt T a l c) Γ D (tSeq (tAsg (tLst ts) (gName i)) u) := fun σ H m s =>
  hs σ H _ m s fun vs H1 e1 m1 h1 => ⟨by
    have := Nat.le_of_ble_eq_true hl
    rw [h1.len, sizeLine_eq]
    omega, fun p hp1 => k p _ _ ⟨(Hm.dt T a l c).up (same_new hp1) m1, deck_ne m1.1 hp1, vs, upd_same, h1.len, fun x hx => P.up (same_new hp1) (hp H1 vs h1 x hx)⟩ (((gx.sat s e1).up (same_new hp1)).set (P := tV (.ref p)) i rfl)⟩
theorem q_lapp {i : Nat} (gx : CtxFx Γ) (hi : Γ[i]? = some (some (tV (.ref p)))) (he : Gv Γ te P) (fx : P.Fx) (hk : k ≤ 1000) (kk : Go (Hm.ls T a l c p P (k + 1)) Γ D u) : Go (Hm.ls T a l c p P k) Γ D (tSeq (tDrop (tBM K "list" rAppend (tVar i) (tCons te tNil))) u) := fun σ H m s => by
  obtain ⟨w, h1, h2⟩ := s.at_ i _ hi
  obtain rfl : w = .ref p := h2
  obtain ⟨xs0, h0, _⟩ := m.2.2
  refine ⟨_, h1, .inl ⟨rfl, _, SqL.of h0⟩, he σ H _ s fun v H1 e1 hv => ?_⟩
  obtain ⟨⟨d1, t1⟩, ⟨na, nl⟩, xs, h4, h5, h6⟩ := (Hm.ls T a l c p P k).up e1 m
  have im : Im H1 (upd H1 p (.lst (xs ++ [v]))) := .put h4 (fun z => z)
  refine ⟨p, _, v, rfl, rfl, h4, small1000 (by omega), kk σ _ ⟨⟨?_, ?_⟩, ⟨na, nl⟩, _, upd_same, by rw [List.length_append, h5]; rfl, fun x hx => ?_⟩ (gx.sat (s.up e1) im)⟩
  · obtain ⟨cs, sd, ct, k1, k2, k3⟩ := d1
    exact ⟨cs, sd, ct, by rw [upd_ne na.symm]; exact k1, by rw [upd_ne nl.symm]; exact k2, k3⟩
  · exact tabs_but t1 h4 (fun _ z => nomatch z) (fun _ z => nomatch z) fun b o hb e => by
      rw [upd_ne hb]
      exact e
  · rcases List.mem_append.mp hx with hx | hx
    · exact fx im (h6 x hx)
    · have e : x = v := by simpa using hx
      rw [e]
      exact fx im hv
theorem ls_dt {H : Hp} (h : (Hm.ls T a l c p P k).p H) : (Hm.dt T a l c).p H := h.1
theorem go_weakM {M M' : Hm} (h : ∀ H, M.p H → M'.p H) (k : Go M' Γ D t) : Go M Γ D t := fun σ H m s => k σ H (h H m) s
/-- for .. in such a list, nothing changed -/
theorem q_forP {ι : Type} {C : ι → Prop} {Pf : ι → Ty} {i : Nat} (h : Γ[i]? = some (some (tV (.ref p)))) (hM : ∀ H, M.p H → ∃ xs, H p = some (.lst xs) ∧ ∀ x ∈ xs, (tE C Pf).p x H) (h0 : ∀ σ H, Sat Γ σ H → Sat Γs σ H)
    (hs : ∀ x : ι, C x → ∀ (M' : Hm) (nx : L2.St → Hp → Prop), (∀ H, M'.p H → M.p H) → Nx M' Γs nx → ∃ Γ', Gt Γs g (Pf x) Γ' ∧ Go M' Γ' { D with nx := nx, ct := nx, bk := u D } t)
    (hd : Go M Γs D u) : Go M Γ D (tSeq (tFor (iList K (tVar i)) g t) u) := fun σ H m s => by
  obtain ⟨v, h1, hv⟩ := s.at_ i _ h
  obtain rfl : v = .ref p := hv
  obtain ⟨xs, hx, hp⟩ := hM H m
  have w : Walk (Itl K p) xs.length (fun H => SqL K H p xs) (YAt xs) := walk_list
  refine ⟨_, h1, p, rfl, ⟨xs, SqL.of hx⟩, ?_⟩
  refine for_it w (fun j σ' H' => Same H H' ∧ Sat Γs σ' H') ⟨.refl H, h0 σ H s⟩ (fun j σ' H' _ q => q.1.seq (SqL.of hx)) (fun j x σ' H' H'' hi q y => ?_) (fun σ' H' q => hd σ' H' (M.up q.1 m) q.2)
  obtain ⟨e2, hxj⟩ := y
  subst e2
  obtain ⟨z, cz, hz⟩ := (tE C Pf).up q.1 (hp x (List.mem_of_getElem? hxj))
  obtain ⟨Γ', hg, hb⟩ := hs z cz (.of H) (fun σ2 H2 => Same H H2 ∧ Sat Γs σ2 H2) (fun H2 e2 => M.up e2 m) (fun σ2 H2 m2 s2 => ⟨m2, s2⟩)
  exact hg x σ' _ _ q.2 hz fun σ2 H2 e2 s2 => hb σ2 H2 (q.1.trans e2) s2
end
end RP
set_option maxHeartbeats 4000000
namespace RP
open PySem PySem.Spec PyProof.Rows L2
/-! ### tapes in a list -/
section
variable {P : Program} {w : World} {K : PySem.W.Frag} {mg : Str → Option Value} {base : Heap} {Γ : Ctx} {ta tb tc td te tf' tg : TE} {a l p d : Addr} {c : Nat} {M : Hm} {D : Ends} {u t : TS} {T : List NdefX.NTab} {H H' H0 : Hp} {kvs kv : Kv} {ds : List Addr} {cs : Nat → Cz} {tk : Tk} {o : Op} {xs : List V} {x y v : V}
theorem tp_up (h : (tTp P w K mg base ⟨tk, o, cs 0⟩ d kvs).p x H) : (tTape P w K mg base ⟨tk, o, cs 0⟩ d).p x H := h.1
def Hm.tp (P : Program) (w : World) (K : PySem.W.Frag) (mg : Str → Option Value) (base : Heap) (T : List NdefX.NTab) (a l : Addr) (c : Nat) (p : Addr) (tk : Tk) (o : Op) (cs : Nat → Cz) (H0 : Hp) (kvs : Kv) (ds : List Addr) : Hm :=
  ⟨fun H => Im H0 H ∧ (Deck a l c H ∧ NdefX.TabsN T H) ∧ (p ≠ a ∧ p ≠ l) ∧ ∃ xs, H p = some (.lst xs) ∧ xs.length = ds.length ∧ ∀ (j : Nat) (d : Addr) (x : V), ds[j]? = some d → xs[j]? = some x → (tTp P w K mg base ⟨tk, o, cs j⟩ d kvs).p x H,
   fun e ⟨h0, h, n, xs, h1, h2, h3⟩ => ⟨h0.trans (.of e), ⟨h.1.up e, h.2.ext e⟩, n, xs, e _ _ h1, h2, fun j d x hj hx => (tTp P w K mg base ⟨tk, o, cs j⟩ d kvs).up e (h3 j d x hj hx)⟩⟩
def Hm.tpd (M : Hm) (ds : List Addr) (d : Addr) (kv : Kv) : Hm := ⟨fun H => M.p H ∧ d ∉ ds ∧ H d = some (.dK kv), fun e h => ⟨M.up e h.1, h.2.1, e _ _ h.2.2⟩⟩
theorem tp_dict (m : (Hm.tp P w K mg base T a l c p tk o cs H0 kvs ds).p H) (h : d ∈ ds) : H d = some (.dK kvs) := by
  obtain ⟨_, _, _, xs, h1, h2, h3⟩ := m
  obtain ⟨j, hj⟩ := List.mem_iff_getElem?.mp h
  have hl := (List.getElem?_eq_some_iff.mp hj).1
  have hx : xs[j]? = some xs[j] := List.getElem?_eq_getElem (by omega)
  exact (h3 j d _ hj hx).2
theorem tp_fresh (m : (Hm.tp P w K mg base T a l c p tk o cs H0 kvs ds).p H) (hd : H d = none) : d ∉ ds := fun h => by
  rw [tp_dict m h] at hd
  cases hd
theorem im_dict (hd : H d = some (.dK kv)) (e : ∀ b ob, b ≠ d → H b = some ob → H' b = some ob) : Im H H' := fun b ob hb fx => e b ob (fun z => by
  rw [z, hd] at hb
  cases hb
  exact fx) hb
/-- a dict of its own changed -/
theorem tp_tell (m : (Hm.tp P w K mg base T a l c p tk o cs H0 kvs ds).p H) (nd : d ∉ ds) (hd : H d = some (.dK kv)) (e : ∀ b ob, b ≠ d → H b = some ob → H' b = some ob) : (Hm.tp P w K mg base T a l c p tk o cs H0 kvs ds).p H' := by
  obtain ⟨h0, ⟨⟨ns, sd, ct, k1, k2, k3⟩, ht⟩, n, xs, h1, h2, h3⟩ := id m
  have nl : ∀ {b : Addr} {ys : List V}, H b = some (.lst ys) → b ≠ d := fun hb z => by
    rw [z, hd] at hb
    cases hb
  have im := im_dict hd e
  refine ⟨h0.trans im, ⟨⟨ns, sd, ct, e _ _ (nl k1) k1, e _ _ (nl k2) k2, k3⟩, tabs_but ht hd (fun _ z => nomatch z) (fun _ z => nomatch z) e⟩, n, xs, e _ _ (nl h1) h1, h2, fun j d' x hj hx => ?_⟩
  have z := h3 j d' x hj hx
  exact ⟨tTape_fx im z.1, e _ _ (fun q => nd (q ▸ List.mem_of_getElem? hj)) z.2⟩
/-- a tape put behind -/
theorem tp_app (m : (Hm.tp P w K mg base T a l c p tk o cs H0 kvs ds).p H) (hp : H p = some (.lst xs)) (hv : (tTp P w K mg base ⟨tk, o, cs ds.length⟩ d kvs).p v H) : (Hm.tp P w K mg base T a l c p tk o cs H0 kvs (ds ++ [d])).p (upd H p (.lst (xs ++ [v]))) := by
  obtain ⟨h0, ⟨⟨ns, sd, ct, k1, k2, k3⟩, ht⟩, ⟨na, nl⟩, xs', h1, h2, h3⟩ := id m
  rw [hp] at h1
  cases h1
  have im : Im H (upd H p (.lst (xs ++ [v]))) := .put hp (fun z => z)
  have nd : ∀ {b : Addr} {kv : Kv}, H b = some (.dK kv) → b ≠ p := fun hb z => by
    rw [z, hp] at hb
    cases hb
  have keep : ∀ {i : Wj} {b : Addr} {x : V}, (tTp P w K mg base i b kvs).p x H → (tTp P w K mg base i b kvs).p x (upd H p (.lst (xs ++ [v]))) := fun {i b x} z => ⟨tTape_fx im z.1, by rw [upd_ne (nd z.2)]; exact z.2⟩
  refine ⟨h0.trans im, ⟨⟨ns, sd, ct, by rw [upd_ne na.symm]; exact k1, by rw [upd_ne nl.symm]; exact k2, k3⟩, tabs_but ht hp (fun _ z => nomatch z) (fun _ z => nomatch z) fun b ob hb e => by rw [upd_ne hb]; exact e⟩, ⟨na, nl⟩, _, upd_same, by rw [List.length_append, List.length_append, h2]; rfl, fun j b x hj hx => ?_⟩
  by_cases hl : j < ds.length
  · rw [List.getElem?_append_left hl] at hj
    rw [List.getElem?_append_left (by omega)] at hx
    exact keep (h3 j b x hj hx)
  · rw [List.getElem?_append_right (by omega)] at hj
    rw [List.getElem?_append_right (by omega)] at hx
    have e : j = ds.length := by
      by_cases z : j - ds.length = 0
      · omega
      · obtain ⟨n, hn⟩ : ∃ n, j - ds.length = n + 1 := ⟨j - ds.length - 1, by omega⟩
        rw [hn] at hj
        simp at hj
    subst e
    rw [Nat.sub_self] at hj
    rw [h2, Nat.sub_self] at hx
    cases hj
    cases hx
    exact keep hv
/-- x = Tape(..) -/
theorem q_tape {i : Nat} {wj : Wj} (ct : TOk wj.t) (co : OOk wj.t wj.o) (a1 : Gv Γ ta (tTalk K wj.t)) (a2 : Gv Γ tb (tCz P w K mg base wj.t.N wj.c)) (a3 : Gv Γ tc (tD K (.int wj.o.beg))) (a4 : Gv Γ td (tD K (.int wj.o.aga))) (a5 : Gv Γ te (tD K (.int wj.o.mst))) (a6 : Gv Γ tf' (tD K (.int wj.o.wai)))
    (fr : ∀ H d, M.p H → H d = none → d ∉ ds) (k : ∀ d, Go (Hm.tpd M ds d []) (Γ.set i (some (tTape P w K mg base wj d))) D u) : Go M Γ D (tSeq (tAsg (tMakeK (cTape K) 2 4 (spTape P w K mg base) gApp E0 (tCons ta (tCons tb tNil)) (tCons tc (tCons td (tCons te (tCons tf' tNil))))) (gName i)) u) := fun σ H m s => by
  have A1 : Ga Γ (tCons ta (tCons tb tNil)) [tTalk K wj.t, tCz P w K mg base wj.t.N wj.c] := ga_cons a1 (ga_cons a2 ga_nil)
  have A2 : Ga Γ (tCons tc (tCons td (tCons te (tCons tf' tNil)))) [tD K (.int wj.o.beg), tD K (.int wj.o.aga), tD K (.int wj.o.mst), tD K (.int wj.o.wai)] := ga_cons a3 (ga_cons a4 (ga_cons a5 (ga_cons a6 ga_nil)))
  show tCons ta (tCons tb tNil) σ H fun vs H1 => tCons tc (tCons td (tCons te (tCons tf' tNil))) σ H1 fun zs H2 => vs.length = 2 ∧ zs.length = 4 ∧ ∀ x dx, H2 x = none → H2 dx = none → dx ≠ x → spTape P w K mg base (gApp (.ref x :: vs) zs) (upd (upd H2 dx (.own x)) x (.ins (cTape K) dx [])) (fun v H3 => v = .non ∧ u D (σ.set i (some (.ref x))) H3) E0
  refine A1 σ H _ s fun vs H1 e1 h1 => ?_
  refine A2 σ H1 _ (s.up e1) fun zs H2 e2 h2 => ⟨h1.len, h2.len, fun x dx nx nd _ => ?_⟩
  refine ⟨wj, x, dx, vs ++ zs, ⟨ct, co⟩, rfl, upd_same, ((h1.up e2).up (made_up nx nd)).app (h2.up (made_up nx nd)), fun H' d hd kp hf hk => ⟨rfl, ?_⟩⟩
  have e3 : Same H2 H' := made_same nx nd kp
  have m2 := M.up (e1.trans e2) m
  have hd2 : H2 d = none := by
    cases z : H2 d with
    | none => rfl
    | some ob => rw [made_up (Co := cTape K) nx nd d ob z] at hd; cases hd
  obtain ⟨us, hu1, hu2⟩ := hf
  exact k d _ H' ⟨M.up e3 m2, fr H2 d m2 hd2, hk⟩ (((s.up (e1.trans e2)).up e3).set (P := tTape P w K mg base wj d) i ⟨x, dx, us, rfl, hu1, hu2⟩)
/-- x.tell(beat, speed) -/
theorem gm_tell {i j : Nat} {wj : Wj} {b n : Int} (gx : CtxFx Γ) (hi : Γ[i]? = some (some (tTape P w K mg base wj d))) (hb : Gv Γ ta (tD K (.int b))) (hn : Gv Γ tb (tD K (.int n))) (hd : ∀ H, M.p H → H d = some (.dK kv)) (hl : kv.length ≤ 1000) (b0 : 0 ≤ b) (n0 : 0 ≤ n)
    (k : ∀ H H', M.p H → (∀ c ob, c ≠ d → H c = some ob → H' c = some ob) → H' d = some (.dK (putK kv (.inl b) (.int n))) → ∀ σ, Sat Γ σ H' → D.nx σ H') : Go M Γ D (tDrop (tMeth (cTape K) "tell" (spTell P w K mg base) [] E0 (tVar i) (tCons ta (tCons tb tNil)))) := fun σ H m s => by
  obtain ⟨x, h1, hx⟩ := s.at_ i _ hi
  obtain ⟨q, dx, fs, e, h2, h3⟩ := id hx
  have A1 : Ga Γ (tCons ta (tCons tb tNil)) [tD K (.int b), tD K (.int n)] := ga_cons hb (ga_cons hn ga_nil)
  refine ⟨x, h1, q, dx, fs, e, h2, h3.none (by rfl), ?_⟩
  refine A1 σ H _ s fun vs H1 e1 hv => ?_
  cases hv with
  | cons y1 t1 =>
    obtain ⟨z, ez, y2⟩ := t1.one
    subst ez
    obtain rfl := Du.int_inv y1
    obtain rfl := Du.int_inv y2
    refine ⟨wj, d, kv, x, b, n, rfl, (tTape P w K mg base wj d).up e1 hx, hd H1 (M.up e1 m), hl, b0, n0, fun H' kp hd' => ?_⟩
    exact k H1 H' (M.up e1 m) kp hd' σ (gx.sat (s.up e1) (im_dict (hd H1 (M.up e1 m)) kp))
/-- two tapes in a list -/
def tTs (P : Program) (w : World) (K : PySem.W.Frag) (mg : Str → Option Value) (base : Heap) (tk : Tk) (o : Op) (cs : Nat → Cz) (kvs : Kv) (d0 d1 : Addr) : Ty := ⟨fun v H => ∃ q x0 x1, v = .ref q ∧ H q = some (.lst [x0, x1]) ∧ (tTp P w K mg base ⟨tk, o, cs 0⟩ d0 kvs).p x0 H ∧ (tTp P w K mg base ⟨tk, o, cs 1⟩ d1 kvs).p x1 H,
  fun e ⟨q, x0, x1, h, h1, h2, h3⟩ => ⟨q, x0, x1, h, e _ _ h1, (tTp P w K mg base ⟨tk, o, cs 0⟩ d0 kvs).up e h2, (tTp P w K mg base ⟨tk, o, cs 1⟩ d1 kvs).up e h3⟩⟩
theorem tp_two {d0 d1 : Addr} (m : (Hm.tp P w K mg base T a l c p tk o cs H0 kvs [d0, d1]).p H) : (tTs P w K mg base tk o cs kvs d0 d1).p (.ref p) H := by
  obtain ⟨_, _, _, xs, h1, h2, h3⟩ := m
  match xs, h2, h1, h3 with
  | [x0, x1], _, h1, h3 => exact ⟨p, x0, x1, rfl, h1, h3 0 d0 x0 rfl rfl, h3 1 d1 x1 rfl rfl⟩
theorem gv_ts0 {d0 d1 : Addr} (h : Gv Γ ta (tTs P w K mg base tk o cs kvs d0 d1)) : Gv Γ (tOp (rIxL K) ta (tC (.int 0))) (tTp P w K mg base ⟨tk, o, cs 0⟩ d0 kvs) := fun σ H Q s q => h σ H _ s fun v H1 e1 ⟨r, x0, x1, e, h1, h2, h3⟩ => ⟨r, _, 0, x0, e, rfl, SqL.of h1, rfl, q x0 H1 e1 h2⟩
theorem gv_ts1 {d0 d1 : Addr} (h : Gv Γ ta (tTs P w K mg base tk o cs kvs d0 d1)) : Gv Γ (tOp (rIxL K) ta (tC (.int 1))) (tTp P w K mg base ⟨tk, o, cs 1⟩ d1 kvs) := fun σ H Q s q => h σ H _ s fun v H1 e1 ⟨r, x0, x1, e, h1, h2, h3⟩ => ⟨r, _, 1, x1, e, rfl, SqL.of h1, rfl, q x1 H1 e1 h3⟩
theorem gv_tpM {Q : Ty} {x : Tw1} {mn : Str} {Rk : Tw1 → Ty} (hn : (fTape P w K mg base x.i x.d).lookup mn = none) (a : Gv Γ ta (tTp P w K mg base x.i x.d x.kvs)) (b : Gv Γ tb (tD K (.int (x.n : Nat)))) (c : Tw1Ok x) : Gv Γ (tMeth (cTape K) mn (spP Tw1Ok (tTw P w K mg base) Rk) [] E0 ta (tCons tb tNil)) (Rk x) := fun σ H Q s q =>
  a σ H _ s fun v H1 e1 hv => by
    obtain ⟨p, dx, vs, h1, h2, h3⟩ := id hv.1
    exact ⟨p, dx, vs, h1, h2, h3.none hn, (ga_cons b ga_nil) σ H1 _ (s.up e1) fun ws H2 e2 h4 => ⟨x, c, by rw [List.append_nil]; exact .cons ((tTp P w K mg base x.i x.d x.kvs).up e2 hv) h4, fun v H' e3 hv => q v H' ((e1.trans e2).trans e3) hv⟩⟩
theorem r_behind {x : Tw1} (a : Gv Γ ta (tTp P w K mg base x.i x.d x.kvs)) (b : Gv Γ tb (tD K (.int (x.n : Nat)))) (c : Tw1Ok x) : Gv Γ (tMeth (cTape K) "stand_behind" (spBehind P w K mg base) [] E0 ta (tCons tb tNil)) (tD K (dSd x.W.s)) := gv_tpM (Q := tV .non) (by rfl) a b c
theorem r_till {x : Tw1} (a : Gv Γ ta (tTp P w K mg base x.i x.d x.kvs)) (b : Gv Γ tb (tD K (.int (x.n : Nat)))) (c : Tw1Ok x) : Gv Γ (tMeth (cTape K) "chosen_till" (spTill P w K mg base) [] E0 ta (tCons tb tNil)) (tD K (dI x.W.rates)) := gv_tpM (Q := tV .non) (by rfl) a b c
end
end RP
set_option maxHeartbeats 4000000
namespace RP
open PySem PySem.Spec PyProof.Rows L2
section
variable {P : Program} {w : World} {K : PySem.W.Frag} {mg : Str → Option Value} {base : Heap} {Γ Γ' : Ctx} {ta tb tc td te : TE} {ts : TA} {a l : Addr} {n c : Nat} {M M1 M2 : Hm} {Ps : List Ty} {ι : Type}
theorem gi_tupTM (hs : GaI M M1 Γ ts Ps) (hl : Nat.ble Ps.length 16777216 = true) : GI M M1 Γ (tTup ts) (tT K Ps) := fun σ H Q m s q =>
  hs σ H _ m s fun vs H1 e1 m1 h1 => ⟨by rw [h1.len, sizeLine_eq]; exact Nat.le_of_ble_eq_true hl, fun p hp => q _ _ (e1.trans (.of (same_new hp))) (M1.up (same_new hp) m1) ⟨p, vs, rfl, SqT.of upd_same, h1.up (same_new hp)⟩⟩
/-- two runs that are equal -/
abbrev tPr (K : PySem.W.Frag) : Ty := tE (fun r : Rr => RrOk r) fun r => tT K [tRun K r, tRun K r]
theorem tPr_fx : (tPr K).Fx := tE_fx fun r => tT_fx (AllFx.mem (.cons tRun_fx (.cons tRun_fx .nil)))
theorem pr_of {C : ι → Prop} {f : ι → Rr} (hu : ∀ x y, C x → C y → f x = f y) (hok : ∀ x, C x → RrOk (f x)) {v : V} {H : Hp} (h : (tT K [tE C fun x => tRun K (f x), tE C fun x => tRun K (f x)]).p v H) : (tPr K).p v H := by
  obtain ⟨p, xs, e, h1, h2⟩ := h
  cases h2 with
  | cons h3 h4 =>
    obtain ⟨u, eu, h5⟩ := h4.one
    obtain ⟨x, cx, hx⟩ := h3
    obtain ⟨y, cy, hy⟩ := h5
    have hy : (tRun K (f y)).p u H := hy
    rw [hu y x cy cx] at hy
    subst eu
    exact ⟨f x, hok x cx, p, _, e, h1, .cons hx (.cons hy .nil)⟩
theorem gv_pair {C : ι → Prop} {f : ι → Rr} (hu : ∀ x y, C x → C y → f x = f y) (hok : ∀ x, C x → RrOk (f x)) (h1 : Gv Γ ta (tE C fun x => tRun K (f x))) (h2 : Gv Γ tb (tE C fun x => tRun K (f x))) : Gv Γ (tTup (tCons ta (tCons tb tNil))) (tPr K) :=
  (gv_tupT (ga_cons h1 (ga_cons h2 ga_nil)) rfl).to fun v H h => pr_of hu hok h
theorem gi_pair {C : ι → Prop} {f : ι → Rr} (gx : CtxFx Γ) (hu : ∀ x y, C x → C y → f x = f y) (hok : ∀ x, C x → RrOk (f x)) (h1 : GI M M1 Γ ta (tE C fun x => tRun K (f x))) (h2 : GI M1 M2 Γ tb (tE C fun x => tRun K (f x))) : GI M M2 Γ (tTup (tCons ta (tCons tb tNil))) (tPr K) :=
  (gi_tupTM (K := K) (gai_cons gx (tE_fx fun _ => tRun_fx) h1 (gai_cons gx (tE_fx fun _ => tRun_fx) h2 gai_nil)) rfl).to fun v H h => pr_of hu hok h
abbrev fRn (t : Tk) (o : Op) (ch : Ch) (spd : Nat → Int) (n : Nat) : Rr := rrOf (Rn t o ch spd n)
theorem fin_eq {t : Tk} {o : Op} {ch : Ch} {spd : Nat → Int} : ∀ x y, Fin' t o ch spd x → Fin' t o ch spd y → fRn t o ch spd x = fRn t o ch spd y := fun x y f g => by rw [f.uniq g]
theorem fin_ok {t : Tk} {o : Op} {ch : Ch} {spd : Nat → Int} {B : Nat} (tk : TOk t) (ok : OOk t o) (vc : Vch t ch) (rd : Rd1 spd B) : ∀ x, Fin' t o ch spd x → RrOk (fRn t o ch spd x) := fun x f => rr_ok tk (Rn_ok tk ok vc rd x f.no) (by rw [Rn_b]; exact f.le tk ok vc rd)
theorem gi_law_run {i : Ro} (gx : CtxFx Γ) (a1 : Gv Γ ta (tTalk K i.t)) (a2 : Gv Γ tb (tRoad K i.ps)) (a3 : GI M M1 Γ tc (tCz P w K mg base i.t.N i.c)) (a4 : Gv Γ td (tD K (dOp i.o))) (cc : RoOk i) :
    GI M M1 Γ (tCall (spLawRun P w K mg base) [] E0 (tCons ta (tCons tb (tCons tc (tCons td tNil))))) (tRuns K i) := gi_call i (gai_cons gx tTalk_fx (gi_of a1) (gai_cons gx tRoad_fx (gi_of a2) (gai_cons gx tCz_fx a3 (gai_of (ga_cons a4 ga_nil))))) rfl cc
theorem gv_neD0 {d e : PyData} {n : Nat} (ha : Gv Γ ta (tD K d)) (hb : Gv Γ tb (tD K e)) (h : d = e) (ly : Lay n d) (hn : n ≤ 64) : Gv Γ (tOp (rNeD K) ta tb) (tD K (.bool false)) := by
  subst h
  have z := gv_neD ha hb (ly.sh hn) (ly.sh hn)
  rw [SeqAt.eqv_refl _ ly.c] at z
  exact z
abbrev fPc : Int × Int → PyData := fun q => .tuple [.int q.1, .int q.2]
abbrev pcOk (ps : List (Int × Int)) : Prop := ps ≠ [] ∧ ps.length ≤ 100 ∧ Rd1 (spOf ps) 46
theorem gx_pieces {i j : Nat} (g : CtxFx Γ) (g2 : ∀ z : Nat, CtxFx ((Γ.set j none).set j (some (tD K (.int (z : Nat)))))) (hi : Γ[i]? = some (some (tV (.ref a)))) (hi2 : ∀ z : Nat, ((Γ.set j none).set j (some (tD K (.int (z : Nat)))))[i]? = some (some (tV (.ref a)))) :
    Gx a l 11 Γ (tLc (iRng1 (tCons (tOp (rI0 fun i j => .int (i + j)) (tC (.int 1)) (tCall (spDraw K) [] E0 (tCons (tVar i) (tCons (tC (.int 5)) tNil)))) tNil)) (gName j) tYes (tTup (tCons (tOp (rI0 fun i j => .int (i + j)) (tC (.int 1)) (tCall (spDraw K) [] E0 (tCons (tVar i) (tCons (tC (.int 9)) tNil)))) (tCons (tCall (spDraw K) [] E0 (tCons (tVar i) (tCons (tC (.int 12)) tNil))) tNil))) [j])
      (tE (fun ps : List (Int × Int) => (1 ≤ ps.length ∧ ps.length ≤ 5) ∧ ∀ q ∈ ps, (1 ≤ q.1 ∧ q.1 ≤ 9) ∧ 0 ≤ q.2) fun ps => tL K (ps.map fPc)) :=
  gx_lcR (ι := Int × Int) (C := fun q => (1 ≤ q.1 ∧ q.1 ≤ 9) ∧ 0 ≤ q.2) (f := fPc) (N := 5) (m := 1) (k := 2) g (by decide) ((gx_1draw (top := 5) g hi 1 ⟨by decide, by decide⟩).le fun v H ⟨z, cz, h⟩ => by
    have cz : 1 ≤ z ∧ z < 1 + 5 := cz
    exact ⟨z, ⟨cz.1, by omega⟩, h⟩) fun z => gx_tupE (n := 1 + 1) (ι := Int × Int) (f := fun q => [.int q.1, .int q.2]) (gxa_cons (g2 z) tI_fx (gx_1draw (top := 9) (g2 z) (hi2 z) 1 ⟨by decide, by decide⟩) (gxa_one (gx_draw (hi2 z) gv_int (by decide) (by decide)))) rfl fun vs H hv => by
    cases hv with
    | cons h1 t1 =>
      obtain ⟨u, e, h2⟩ := t1.one
      subst e
      obtain ⟨x, cx, hx⟩ := h1
      obtain ⟨y, cy, hy⟩ := h2
      have cx : 1 ≤ x ∧ x < 1 + 9 := cx
      have cy : 0 ≤ y ∧ y < 12 := cy
      exact ⟨(x, y), ⟨⟨cx.1, by show x ≤ 9; omega⟩, cy.1⟩, .cons hx (.cons hy .nil)⟩
theorem gx_road {ps : List (Int × Int)} {i j : Nat} (wk : ∀ σ H, Sat Γ σ H → Sat Γ' σ H) (g : CtxFx Γ') (hj : Γ[j]? = some (some (tL K (ps.map fPc)))) (hi : Γ'[i]? = some (some (tV (.ref a)))) (hl : ps.length ≤ 5) (hp : ∀ q ∈ ps, (1 ≤ q.1 ∧ q.1 ≤ 9) ∧ 0 ≤ q.2) :
    Gx a l 1 Γ (tMake (cRoad K) (spRoad K) [] E0 (tCons (tOp (rCatA K) (tCB (rTupOf K) (tCons (tVar j) tNil)) (tTup (tCons (tTup (tCons (tC (.int 1)) (tCons (tOp (rI0 fun i j => .int (i + j)) (tC (.int 1)) (tCall (spDraw K) [] E0 (tCons (tVar i) (tCons (tC (.int 9)) tNil)))) tNil))) tNil))) tNil)) (tE pcOk (tRoad K)) := by
  have h1 : Gx a l (0 + 1) Γ' (tTup (tCons (tC (.int 1)) (tCons (tOp (rI0 fun i j => .int (i + j)) (tC (.int 1)) (tCall (spDraw K) [] E0 (tCons (tVar i) (tCons (tC (.int 9)) tNil)))) tNil))) (tE (fun z : Int => 1 ≤ z ∧ z < 1 + 9) fun z => tD K (.tuple [.int 1, .int z])) :=
    gx_tupE (ι := Int) (f := fun z => [.int 1, .int z]) (gxa_cons g tD_fx (gx_of (gv_int (K := K) (i := 1))) (gxa_one (gx_1draw (top := 9) g hi 1 ⟨by decide, by decide⟩))) rfl fun vs H hv => by
      cases hv with
      | cons h1 t1 =>
        obtain ⟨u, e, x, cx, hx⟩ := t1.one
        subst e
        exact ⟨x, cx, .cons h1 (.cons hx .nil)⟩
  have h2 : Gx a l (0 + 1) Γ' (tTup (tCons (tTup (tCons (tC (.int 1)) (tCons (tOp (rI0 fun i j => .int (i + j)) (tC (.int 1)) (tCall (spDraw K) [] E0 (tCons (tVar i) (tCons (tC (.int 9)) tNil)))) tNil))) tNil)) (tE (fun z : Int => 1 ≤ z ∧ z < 1 + 9) fun z => tD K (.tuple [.tuple [.int 1, .int z]])) :=
    gx_tupE (ι := Int) (f := fun z => [.tuple [.int 1, .int z]]) (gxa_one h1) rfl fun vs H hv => by
      obtain ⟨u, e, x, cx, hx⟩ := hv.one
      subst e
      exact ⟨x, cx, .cons hx .nil⟩
  have h3 : Gx a l (0 + 1) Γ (tOp (rCatA K) (tCB (rTupOf K) (tCons (tVar j) tNil)) (tTup (tCons (tTup (tCons (tC (.int 1)) (tCons (tOp (rI0 fun i j => .int (i + j)) (tC (.int 1)) (tCall (spDraw K) [] E0 (tCons (tVar i) (tCons (tC (.int 9)) tNil)))) tNil))) tNil))) (tE pcOk fun ps => tD K (dPs ps)) :=
    gx_opL (A := tD K (.tuple (ps.map fPc))) tD_fx wk (gv_cb1 (gv_var hj) gc_tupL) h2 fun x y H Q hx ⟨z, cz, hy⟩ q => by
      have e : dPs (ps ++ [(1, z)]) = .tuple (ps.map fPc ++ [.tuple [.int 1, .int z]]) := by
        show PyData.tuple ((ps ++ [(1, z)]).map fPc) = _
        rw [List.map_append]
        rfl
      have cz : 1 ≤ z ∧ z < 1 + 9 := cz
      refine (fun σ s => gv_cat (K := K) (Γ := [some (tD K (.tuple (ps.map fPc))), some (tD K (.tuple [.tuple [.int 1, .int z]]))]) (ta := tVar 0) (tb := tVar 1) (gv_var rfl) (gv_var rfl) (by rw [List.length_map, sizeLine_eq]; show ps.length + 1 ≤ _; omega) σ H Q s fun v H' e2 hv => q v H' e2 ⟨ps ++ [(1, z)], ⟨by simp, by rw [List.length_append]; show ps.length + 1 ≤ 100; omega, rd_pieces hp hl cz.1⟩, by show (tD K (dPs (ps ++ [(1, z)]))).p v H'; rw [e]; exact hv⟩ : ∀ σ, Sat [some (tD K (.tuple (ps.map fPc))), some (tD K (.tuple [.tuple [.int 1, .int z]]))] σ H → tOp (rCatA K) (tVar 0) (tVar 1) σ H Q) [some x, some y] ?_ |> fun h => by
        obtain ⟨x', ex, y', ey, h⟩ := h
        cases ex
        cases ey
        exact h
      refine ⟨rfl, fun i P hi => ?_⟩
      match i, hi with
      | 0, hi => cases hi; exact ⟨x, rfl, hx⟩
      | 1, hi => cases hi; exact ⟨y, rfl, hy⟩
      | i + 2, hi => simp at hi
  exact gx_make (κ := List (Int × Int)) (gxa_one h3) fun vs H hv => by
    obtain ⟨u, e, qs, cq, hq⟩ := hv.one
    subst e
    exact ⟨qs, trivial, .cons hq .nil, fun v H h => ⟨qs, cq, h⟩⟩
end
end RP
set_option maxHeartbeats 4000000
namespace RP
open PySem PySem.Spec PyProof.Rows L2
section
variable {P : Program} {w : World} {K : PySem.W.Frag} {mg : Str → Option Value} {base : Heap} {Γ : Ctx} {ta tb tc td te : TE} {a l : Addr}
def Hm.im (H0 : Hp) (M : Hm) : Hm := ⟨fun H => Im H0 H ∧ M.p H, fun e h => ⟨h.1.trans (.of e), M.up e h.2⟩⟩
theorem sc_law_runs_right : FnScope ["_law_deck_here", "_law_talk_here", "_law_options_here", "_law_first", "_law_later", "_law_high", "_law_waits", "_law_pieces", "_law_k", "_law_road", "_law_plan", "_law_length", "_law_run_here", "_law_other", "_law_same", "_law_one", "_law_there", "_law_tapes", "_law_chooser", "_law_tape", "_law_beat"] ["_law_deck_here"] (defScope s_law_runs_right) := ⟨rfl, rfl, rfl, by decide +kernel, rfl, by decide +kernel, by decide +kernel⟩
theorem c_law_runs_right (T : Txt K mg) (TB : LamX.TabB base mg (He.cT K tdn).1 (He.cT K tdn).2) : CalG P w K mg base "_law_runs_right" 11 (spRight K) := by
  obtain ⟨fd, F⟩ := T.d_law_runs_right
  refine ⟨_, fd, ["_law_deck_here"], ?_, T.g_law_runs_right, F.kp, F.bindsN (fun _ _ _ _ _ _ us hl => match us, hl with | [_], _ => rfl)⟩
  refine okG F sc_law_runs_right (fun vs H Q E ⟨a, l, c, e, _⟩ => by rw [e]; rfl) fun cdv A outer s H vs Q E hg hr ⟨a, l, c, e, d, tb, cb, q⟩ => ?_
  subst e
  refine ⟨_, PSs.nox (pss_cons (ps_set (i := 1) sc_law_runs_right.nd rfl (Or.inr rfl) (pe_cal (c_law_talk T) hr (by decide) rfl (pa_cons (pv 0) (pa_cons pe_int (pa_cons (pe_ix (r := rIxL K) ix_list (pe_lst (pa_cons pe_int (pa_cons pe_int (pa_cons pe_int pa_nil)))) (pe_cal (c_law_draw T) hr (by decide) rfl (pa_cons (pv 0) (pa_cons pe_int pa_nil))) (fun _ _ => rfl)) pa_nil))))) (pss_cons (ps_set (i := 2) sc_law_runs_right.nd rfl (Or.inl rfl) (pe_cal (c_law_options T) hr (by decide) rfl (pa_cons (pv 0) (pa_cons (pv 1) pa_nil)))) (pss_cons (ps_asg (pv 2) (pg_tup rfl (pgs_cons (pg_name (i := 3) sc_law_runs_right.nd rfl (Or.inl rfl)) (pgs_cons (pg_name (i := 4) sc_law_runs_right.nd rfl (Or.inl rfl)) (pgs_cons (pg_name (i := 5) sc_law_runs_right.nd rfl (Or.inl rfl)) (pgs_cons (pg_name (i := 6) sc_law_runs_right.nd rfl (Or.inl rfl)) pgs_nil)))))) (pss_cons (ps_setLc (i := 7) (own := [("_law_k", 8)]) (g := gName 8) (tt := tYes) (by rfl) sc_law_runs_right.nd rfl rfl (sw_true rfl rfl rfl (by decide +kernel)) (pi_range1 (by rfl) T.f_range (pa_cons (pe_op op_add pe_int (pe_cal (c_law_draw T) hr (by decide) rfl (pa_cons (pv 0) (pa_cons pe_int pa_nil)))) pa_nil)) (blkOk_by (own := [("_law_k", 8)]) (N := ["_law_deck_here", "_law_talk_here", "_law_options_here", "_law_first", "_law_later", "_law_high", "_law_waits", "_law_pieces", "_law_k", "_law_road", "_law_plan", "_law_length", "_law_run_here", "_law_other", "_law_same", "_law_one", "_law_there", "_law_tapes", "_law_chooser", "_law_tape", "_law_beat"]) (sc := defScope s_law_runs_right) (by decide +kernel)) (fun _ _ _ _ _ => pg_name (i := 8) sc_law_runs_right.nd rfl (Or.inl rfl)) (fun _ _ _ _ _ => pts_nil) (fun _ _ _ _ _ => (pe_tup (pa_cons (pe_op op_add pe_int (pe_cal (c_law_draw T) hr (by decide) rfl (pa_cons (pv 0) (pa_cons pe_int pa_nil)))) (pa_cons (pe_cal (c_law_draw T) hr (by decide) rfl (pa_cons (pv 0) (pa_cons pe_int pa_nil))) pa_nil))))) (pss_cons (ps_set (i := 9) sc_law_runs_right.nd rfl (Or.inl rfl) (pe_calC (c_Road_init T) hr (by decide) rfl (pa_cons (pe_op (r := rCatA K) op_catA (pe_callTy (T := "tuple") (r := rTupOf K) call_tuple_of (by rfl) T.f_tuple (by decide +kernel) (pa_cons (pv 7) pa_nil)) (pe_tup (pa_cons (pe_tup (pa_cons pe_int (pa_cons (pe_op op_add pe_int (pe_cal (c_law_draw T) hr (by decide) rfl (pa_cons (pv 0) (pa_cons pe_int pa_nil)))) pa_nil))) pa_nil))) pa_nil))) (pss_cons (ps_set (i := 10) sc_law_runs_right.nd rfl (Or.inl rfl) (pe_callTy (T := "tuple") (r := rTupOf K) call_tuple_of (by rfl) T.f_tuple (by decide +kernel) (pa_cons (pe_lc (own := [("_law_length", 11)]) (g := gName 11) (tt := tYes) (by rfl) sc_law_runs_right.nd (pi_tup (pe_fld (pv 1) rfl)) (blkOk_by (own := [("_law_length", 11)]) (N := ["_law_deck_here", "_law_talk_here", "_law_options_here", "_law_first", "_law_later", "_law_high", "_law_waits", "_law_pieces", "_law_k", "_law_road", "_law_plan", "_law_length", "_law_run_here", "_law_other", "_law_same", "_law_one", "_law_there", "_law_tapes", "_law_chooser", "_law_tape", "_law_beat"]) (sc := defScope s_law_runs_right) (by decide +kernel)) (fun _ _ _ _ _ => pg_name (i := 11) sc_law_runs_right.nd rfl (Or.inl rfl)) (fun _ _ _ _ _ => pts_nil) (fun _ _ _ _ _ => (pe_cal (c_law_draw (P := P) (w := w) (base := base) T) hr (by decide) rfl (pa_cons (pv 0) (pa_cons (pe_calM0 (c_Talk_many_rates (P := P) (w := w) (base := base) T) T.c_Talk hr (by decide) (pv 1)) pa_nil))))) pa_nil))) (pss_cons (ps_set (i := 12) sc_law_runs_right.nd rfl (Or.inl rfl) (pe_cal (c_law_run T) hr (by decide) rfl (pa_cons (pv 1) (pa_cons (pv 9) (pa_cons (pe_glob (v := .ref (He.ga K "_law_rule")) rfl T.g_law_rule rfl) (pa_cons (pv 2) pa_nil)))))) (pss_cons (ps_set (i := 13) sc_law_runs_right.nd rfl (Or.inl rfl) (pe_cal (c_law_run T) hr (by decide) rfl (pa_cons (pv 1) (pa_cons (pv 9) (pa_cons (pv 10) (pa_cons (pv 2) pa_nil)))))) (pss_cons (ps_set (i := 14) sc_law_runs_right.nd rfl (Or.inl rfl) (pe_lst (pa_cons (pe_tup (pa_cons (pv 12) (pa_cons (pe_cal (c_law_run T) hr (by decide) rfl (pa_cons (pv 1) (pa_cons (pv 9) (pa_cons (pe_fld (pv 12) rfl) (pa_cons (pv 2) pa_nil))))) pa_nil))) (pa_cons (pe_tup (pa_cons (pv 13) (pa_cons (pe_cal (c_law_run T) hr (by decide) rfl (pa_cons (pv 1) (pa_cons (pv 9) (pa_cons (pe_cal (c_law_telling T TB) hr (by decide) rfl (pa_cons (pv 10) pa_nil)) (pa_cons (pv 2) pa_nil))))) pa_nil))) pa_nil)))) (pss_cons (ps_expr (pe_bm PySem.F.plainAttrs_list PySem.F.slot_list_append PySem.F.type_list_append mt_append (pv 14) (pa_cons (pe_tup (pa_cons (pe_cal (c_law_run T) hr (by decide) rfl (pa_cons (pv 1) (pa_cons (pv 9) (pa_cons (pe_glob (v := .ref (He.ga K "_law_odd")) rfl T.g_law_odd rfl) (pa_cons (pv 2) pa_nil))))) (pa_cons (pe_cal (c_law_run T) hr (by decide) rfl (pa_cons (pv 1) (pa_cons (pv 9) (pa_cons (pe_op (r := rRep1 K) op_rep1 (pe_tup (pa_cons pe_int pa_nil)) (pe_callB (id := "len") (r := rLn K) call_len_seq (by rfl) T.f_len (by decide +kernel) (pa_cons (pe_fld (pv 1) rfl) pa_nil))) (pa_cons (pv 2) pa_nil))))) pa_nil))) pa_nil))) (pss_cons (ps_expr (pe_bm PySem.F.plainAttrs_list PySem.F.slot_list_append PySem.F.type_list_append mt_append (pv 14) (pa_cons (pe_tup (pa_cons (pv 12) (pa_cons (pe_cal (c_law_run T) hr (by decide) rfl (pa_cons (pv 1) (pa_cons (pv 9) (pa_cons (pe_glob (v := .ref (He.ga K "_law_rule")) rfl T.g_law_rule rfl) (pa_cons (pv 2) pa_nil))))) pa_nil))) pa_nil))) (pss_cons (ps_for PassesOwn.never rfl (pi_list (pv 14)) (pg_tup rfl (pgs_cons (pg_name (i := 15) sc_law_runs_right.nd rfl (Or.inl rfl)) (pgs_cons (pg_name (i := 16) sc_law_runs_right.nd rfl (Or.inl rfl)) pgs_nil))) (pss_one (ps_if (PW.pt (pw_or (pt_cmpR (op_runNe T hr (by decide)) (pv 15) (pv 16) (nomark _)) (pw_or1 (pt_cmpR op_ne (pe_calG (c_law_fields T) hg hr (by decide) rfl (pa_cons (pv 15) pa_nil)) (pe_calG (c_law_fields T) hg hr (by decide) rfl (pa_cons (pv 16) pa_nil)) (nomark _))))) (pss_one (ps_ret pe_bl)) pss_nil))) (pss_cons (ps_if (pt_cmpR (r := rNeD K) (op_neD hr.units) (pe_fld (pv 13) rfl) (pv 10) (nomark _)) (pss_one (ps_ret pe_bl)) pss_nil) (pss_cons (ps_set (i := 17) sc_law_runs_right.nd rfl (Or.inl rfl) (pe_lst pa_nil)) (pss_cons (ps_for PassesOwn.never rfl (pi_tup (pe_tup (pa_cons (pe_glob (v := .ref (He.ga K "_law_rule")) rfl T.g_law_rule rfl) (pa_cons (pe_fld (pv 12) rfl) pa_nil)))) (pg_name (i := 18) sc_law_runs_right.nd rfl (Or.inl rfl)) (pss_cons (ps_set (i := 19) sc_law_runs_right.nd rfl (Or.inl rfl) (pe_calCK (f_Tape_init T) hr (by decide) rfl (pa_cons (pv 1) (pa_cons (pv 18) pa_nil)) (pk_cons (pv 3) (pk_cons (pv 4) (pk_cons (pv 5) (pk_cons (pv 6) pk_nil)))))) (pss_cons (ps_for PassesOwn.never rfl (pi_range1 (by rfl) T.f_range (pa_cons (pe_fld (pv 12) rfl) pa_nil)) (pg_name (i := 20) sc_law_runs_right.nd rfl (Or.inl rfl)) (pss_one (ps_expr (pe_calM (c_Tape_tell T) T.c_Tape hr (by decide) (pv 19) (pa_cons (pv 20) (pa_cons (pe_calM (c_Road_speed_at T) T.c_Road hr (by decide) (pv 9) (pa_cons (pv 20) pa_nil)) pa_nil)))))) (pss_one (ps_expr (pe_bm PySem.F.plainAttrs_list PySem.F.slot_list_append PySem.F.type_list_append mt_append (pv 17) (pa_cons (pv 19) pa_nil))))))) (pss_cons (ps_for PassesOwn.never rfl (pi_tup (pe_tup (pa_cons (pe_op op_fdivN (pe_fld (pv 12) rfl) pe_int) (pa_cons (pe_fld (pv 12) rfl) pa_nil)))) (pg_name (i := 20) sc_law_runs_right.nd rfl (Or.inl rfl)) (pss_cons (ps_if (pt_cmpR (r := rNeD K) (op_neD hr.units) (pe_calM (c_Tape_stand_behind T) T.c_Tape hr (by decide) (pe_ix (r := rIxL K) ix_list (pv 17) pe_int (fun _ _ => rfl)) (pa_cons (pv 20) pa_nil)) (pe_calM (c_Tape_stand_behind T) T.c_Tape hr (by decide) (pe_ix (r := rIxL K) ix_list (pv 17) pe_int (fun _ _ => rfl)) (pa_cons (pv 20) pa_nil)) (nomark _)) (pss_one (ps_ret pe_bl)) pss_nil) (pss_one (ps_if (pt_cmpR (r := rNeD K) (op_neD hr.units) (pe_calM (c_Tape_chosen_till T) T.c_Tape hr (by decide) (pe_ix (r := rIxL K) ix_list (pv 17) pe_int (fun _ _ => rfl)) (pa_cons (pv 20) pa_nil)) (pe_calM (c_Tape_chosen_till T) T.c_Tape hr (by decide) (pe_ix (r := rIxL K) ix_list (pv 17) pe_int (fun _ _ => rfl)) (pa_cons (pv 20) pa_nil)) (nomark _)) (pss_one (ps_ret pe_bl)) pss_nil)))) (pss_one (ps_ret pe_bl)))))))))))))))))), ?_⟩
  refine go_run (M := Hm.dt (T0 K) a l c) ?_ ⟨d, tb⟩ (Pv.cons (P := tV (.ref a)) rfl .nil).ent
  try dsimp only [Cx.nox, cxOf, ent, List.map, List.length_cons, List.length_nil, List.replicate_succ, List.replicate_zero, List.cons_append, List.nil_append, List.set]
  refine qd_set (by repeat (first | exact CtxFx.nil | refine CtxFx.no ?_ | refine CtxFx.yes tD_fx ?_ | refine CtxFx.yes tV_fx ?_ | refine CtxFx.yes tTalk_fx ?_ | refine CtxFx.yes tRoad_fx ?_ | refine CtxFx.yes tRun_fx ?_ | refine CtxFx.yes tTape_fx ?_ | refine CtxFx.yes tCz_fx ?_)) (gx_talk (ns := [1, 2, 4]) (by repeat (first | exact CtxFx.nil | refine CtxFx.no ?_ | refine CtxFx.yes tD_fx ?_ | refine CtxFx.yes tV_fx ?_ | refine CtxFx.yes tTalk_fx ?_ | refine CtxFx.yes tRoad_fx ?_ | refine CtxFx.yes tRun_fx ?_ | refine CtxFx.yes tTape_fx ?_ | refine CtxFx.yes tCz_fx ?_)) rfl ⟨by decide, by decide⟩ (fun σ H Q q => q) rfl (by decide) (by decide)) (by omega) ?_
  try dsimp only [List.set]
  refine go_open (i := 1) rfl fun t tk => ?_
  try dsimp only [List.set]
  have tk : TOk t := tk
  have n6 : t.len.length ≤ 6 := tk.le
  have w4 := tk.w1
  refine qd_set (by repeat (first | exact CtxFx.nil | refine CtxFx.no ?_ | refine CtxFx.yes tD_fx ?_ | refine CtxFx.yes tV_fx ?_ | refine CtxFx.yes tTalk_fx ?_ | refine CtxFx.yes tRoad_fx ?_ | refine CtxFx.yes tRun_fx ?_ | refine CtxFx.yes tTape_fx ?_ | refine CtxFx.yes tCz_fx ?_)) (gx_opts rfl (gv_var rfl) tk) (by omega) ?_
  try dsimp only [List.set]
  refine go_open (i := 2) rfl fun o ok => ?_
  try dsimp only [List.set]
  have ok : OOk t o := ok
  refine q_asg (gv_var rfl) (gt_tup (ds := [.int o.beg, .int o.aga, .int o.mst, .int o.wai]) (gts_cons gt_name (gts_cons gt_name (gts_cons gt_name (gts_cons gt_name gts_nil)))) rfl) ?_
  try dsimp only [List.set]
  refine qd_set (by repeat (first | exact CtxFx.nil | refine CtxFx.no ?_ | refine CtxFx.yes tD_fx ?_ | refine CtxFx.yes tV_fx ?_ | refine CtxFx.yes tTalk_fx ?_ | refine CtxFx.yes tRoad_fx ?_ | refine CtxFx.yes tRun_fx ?_ | refine CtxFx.yes tTape_fx ?_ | refine CtxFx.yes tCz_fx ?_)) (gx_pieces (by repeat (first | exact CtxFx.nil | refine CtxFx.no ?_ | refine CtxFx.yes tD_fx ?_ | refine CtxFx.yes tV_fx ?_ | refine CtxFx.yes tTalk_fx ?_ | refine CtxFx.yes tRoad_fx ?_ | refine CtxFx.yes tRun_fx ?_ | refine CtxFx.yes tTape_fx ?_ | refine CtxFx.yes tCz_fx ?_)) (fun z => (by repeat (first | exact CtxFx.nil | refine CtxFx.no ?_ | refine CtxFx.yes tD_fx ?_ | refine CtxFx.yes tV_fx ?_ | refine CtxFx.yes tTalk_fx ?_ | refine CtxFx.yes tRoad_fx ?_ | refine CtxFx.yes tRun_fx ?_ | refine CtxFx.yes tTape_fx ?_ | refine CtxFx.yes tCz_fx ?_))) rfl (fun z => rfl)) (by omega) ?_
  try dsimp only [List.set]
  refine go_open (i := 7) rfl fun pcs hpc => ?_
  try dsimp only [List.set]
  obtain ⟨⟨pc1, pc2⟩, pc3⟩ := hpc
  refine qd_setW (Γ' := [some (tV (.ref a)), some (tTalk K t), some (tD K (dOp o)), some (tD K (.int o.beg)), some (tD K (.int o.aga)), some (tD K (.int o.mst)), some (tD K (.int o.wai)), none, none, none, none, none, none, none, none, none, none, none, none, none, none]) (fun σ H s => s.wk (.keep (.keep (.keep (.keep (.keep (.keep (.keep (.any (.any (.any (.any (.any (.any (.any (.any (.any (.any (.any (.any (.any (.any .nil)))))))))))))))))))))) (by repeat (first | exact CtxFx.nil | refine CtxFx.no ?_ | refine CtxFx.yes tD_fx ?_ | refine CtxFx.yes tV_fx ?_ | refine CtxFx.yes tTalk_fx ?_ | refine CtxFx.yes tRoad_fx ?_ | refine CtxFx.yes tRun_fx ?_ | refine CtxFx.yes tTape_fx ?_ | refine CtxFx.yes tCz_fx ?_)) (gx_road (ps := pcs) (i := 0) (j := 7) (Γ' := [some (tV (.ref a)), some (tTalk K t), some (tD K (dOp o)), some (tD K (.int o.beg)), some (tD K (.int o.aga)), some (tD K (.int o.mst)), some (tD K (.int o.wai)), none, none, none, none, none, none, none, none, none, none, none, none, none, none]) (fun σ H s => s.wk (.keep (.keep (.keep (.keep (.keep (.keep (.keep (.any (.any (.any (.any (.any (.any (.any (.any (.any (.any (.any (.any (.any (.any .nil)))))))))))))))))))))) (by repeat (first | exact CtxFx.nil | refine CtxFx.no ?_ | refine CtxFx.yes tD_fx ?_ | refine CtxFx.yes tV_fx ?_ | refine CtxFx.yes tTalk_fx ?_ | refine CtxFx.yes tRoad_fx ?_ | refine CtxFx.yes tRun_fx ?_ | refine CtxFx.yes tTape_fx ?_ | refine CtxFx.yes tCz_fx ?_)) rfl rfl pc2 pc3) (by omega) ?_
  try dsimp only [List.set]
  refine go_open (i := 9) rfl fun ps hps => ?_
  try dsimp only [List.set]
  obtain ⟨ps1, ps2, rd⟩ := hps
  refine qd_set (by repeat (first | exact CtxFx.nil | refine CtxFx.no ?_ | refine CtxFx.yes tD_fx ?_ | refine CtxFx.yes tV_fx ?_ | refine CtxFx.yes tTalk_fx ?_ | refine CtxFx.yes tRoad_fx ?_ | refine CtxFx.yes tRun_fx ?_ | refine CtxFx.yes tTape_fx ?_ | refine CtxFx.yes tCz_fx ?_)) (gx_plan (T := T) (by repeat (first | exact CtxFx.nil | refine CtxFx.no ?_ | refine CtxFx.yes tD_fx ?_ | refine CtxFx.yes tV_fx ?_ | refine CtxFx.yes tTalk_fx ?_ | refine CtxFx.yes tRoad_fx ?_ | refine CtxFx.yes tRun_fx ?_ | refine CtxFx.yes tTape_fx ?_ | refine CtxFx.yes tCz_fx ?_)) (fun z => (by repeat (first | exact CtxFx.nil | refine CtxFx.no ?_ | refine CtxFx.yes tD_fx ?_ | refine CtxFx.yes tV_fx ?_ | refine CtxFx.yes tTalk_fx ?_ | refine CtxFx.yes tRoad_fx ?_ | refine CtxFx.yes tRun_fx ?_ | refine CtxFx.yes tTape_fx ?_ | refine CtxFx.yes tCz_fx ?_))) (fun z => rfl) rfl (fun z => rfl) tk) (by omega) ?_
  try dsimp only [List.set]
  refine go_open (i := 10) rfl fun pl hp => ?_
  try dsimp only [List.set]
  obtain ⟨hp1, hp2⟩ : plOk t pl := hp
  have vc1 : Vch t (chOf t (.fn gRule)) := vch_fn tk _
  have ro1 : RoOk ⟨t, o, .fn gRule, ps⟩ := ⟨tk, ok, gRule_flat, vc1, ps1, ps2, _, rd⟩
  have vc2 : Vch t (planCh pl) := vch_plan hp1 hp2
  have ro2 : RoOk ⟨t, o, .plan pl, ps⟩ := ⟨tk, ok, hp1, vc2, ps1, ps2, _, rd⟩
  have ro4 : RoOk ⟨t, o, .fn (gTell pl), ps⟩ := ⟨tk, ok, gTell_flat pl, vch_fn tk _, ps1, ps2, _, rd⟩
  have ro5 : RoOk ⟨t, o, .fn gOdd, ps⟩ := ⟨tk, ok, gOdd_flat, vch_fn tk _, ps1, ps2, _, rd⟩
  have hz1 : (List.replicate t.len.length (0 : Int)).length = t.len.length := List.length_replicate
  have hz2 : ∀ r ∈ List.replicate t.len.length (0 : Int), 0 ≤ r ∧ r < (t.W : Int) := fun r hr => by
    rw [List.eq_of_mem_replicate hr]
    omega
  have ro6 : RoOk ⟨t, o, .plan (List.replicate t.len.length 0), ps⟩ := ⟨tk, ok, hz1, vch_plan hz1 hz2, ps1, ps2, _, rd⟩
  refine q_set (r_law_run (i := ⟨t, o, .fn gRule, ps⟩) (gv_var rfl) (gv_var rfl) (gv_c fun H => cz_rule T tk.le H) (gv_var rfl) ro1) ?_
  try dsimp only [List.set]
  refine go_open (i := 12) rfl fun n1 f1 => ?_
  try dsimp only [List.set]
  have f1 : Fin' t o (chOf t (.fn gRule)) (spOf ps) n1 := f1
  refine q_set (r_law_run (i := ⟨t, o, .plan pl, ps⟩) (gv_var rfl) (gv_var rfl) (gv_var rfl) (gv_var rfl) ro2) ?_
  try dsimp only [List.set]
  refine go_open (i := 13) rfl fun n2 f2 => ?_
  try dsimp only [List.set]
  have f2 : Fin' t o (planCh pl) (spOf ps) n2 := f2
  have e2 : (rrOf (Rne ⟨t, o, .plan pl, ps⟩ n2)).rates = pl := f2.plan_rates tk ok vc2 rd hp1
  have rl1 : (Rn t o (chOf t (.fn gRule)) (spOf ps) n1).rates.length = t.len.length := f1.rates_len tk ok vc1 rd
  have rl2 : ∀ r ∈ (Rn t o (chOf t (.fn gRule)) (spOf ps) n1).rates, 0 ≤ r ∧ r < (t.W : Int) := f1.rates_ok tk ok vc1 rd
  have ro3 : RoOk ⟨t, o, .plan (Rn t o (chOf t (.fn gRule)) (spOf ps) n1).rates, ps⟩ := ⟨tk, ok, rl1, vch_plan rl1 rl2, ps1, ps2, _, rd⟩
  have f3 : Fin' t o (planCh (Rn t o (chOf t (.fn gRule)) (spOf ps) n1).rates) (spOf ps) n1 := f1.plan tk ok vc1 rd
  have e3 : Rn t o (planCh (Rn t o (chOf t (.fn gRule)) (spOf ps) n1).rates) (spOf ps) n1 = Rn t o (chOf t (.fn gRule)) (spOf ps) n1 := run_plan tk ok vc1 rd f1.no n1 (Nat.le_refl _)
  have le1 : n1 ≤ 300 := f1.le tk ok vc1 rd
  have to1 : ∀ v H, (tRun K (rrOf (Rne ⟨t, o, .fn gRule, ps⟩ n1))).p v H → (tE (fun n => Fin' t o (chOf t (.fn gRule)) (spOf ps) n) fun n => tRun K (fRn t o (chOf t (.fn gRule)) (spOf ps) n)).p v H := fun v H h => ⟨n1, f1, h⟩
  have to2 : ∀ v H, (tRun K (rrOf (Rne ⟨t, o, .plan pl, ps⟩ n2))).p v H → (tE (fun n => Fin' t o (planCh pl) (spOf ps) n) fun n => tRun K (fRn t o (planCh pl) (spOf ps) n)).p v H := fun v H h => ⟨n2, f2, h⟩
  have to3 : ∀ v H, (tRuns K ⟨t, o, .plan (Rn t o (chOf t (.fn gRule)) (spOf ps) n1).rates, ps⟩).p v H → (tE (fun n => Fin' t o (chOf t (.fn gRule)) (spOf ps) n) fun n => tRun K (fRn t o (chOf t (.fn gRule)) (spOf ps) n)).p v H := fun v H ⟨n, f, h⟩ => by
    have f : Fin' t o (planCh (Rn t o (chOf t (.fn gRule)) (spOf ps) n1).rates) (spOf ps) n := f
    have e := f.uniq f3
    subst e
    refine ⟨n, f1, ?_⟩
    have h : (tRun K (rrOf (Rn t o (planCh (Rn t o (chOf t (.fn gRule)) (spOf ps) n).rates) (spOf ps) n))).p v H := h
    rw [e3] at h
    exact h
  have e4 : chOf t (.fn (gTell pl)) = planCh pl := chOf_tell hp1 hp2
  have to4 : ∀ v H, (tRuns K ⟨t, o, .fn (gTell pl), ps⟩).p v H → (tE (fun n => Fin' t o (planCh pl) (spOf ps) n) fun n => tRun K (fRn t o (planCh pl) (spOf ps) n)).p v H := fun v H h => by
    have h : (tE (fun n => Fin' t o (chOf t (.fn (gTell pl))) (spOf ps) n) fun n => tRun K (fRn t o (chOf t (.fn (gTell pl))) (spOf ps) n)).p v H := h
    rw [e4] at h
    exact h
  have e5 : chOf t (.fn gOdd) = zeroCh := chOf_odd tk
  have e6 : chOf t (.plan (List.replicate t.len.length 0)) = zeroCh := zero_plan _
  have vz : Vch t zeroCh := by
    rw [← e5]
    exact vch_fn tk _
  have to5 : ∀ v H, (tRuns K ⟨t, o, .fn gOdd, ps⟩).p v H → (tE (fun n => Fin' t o zeroCh (spOf ps) n) fun n => tRun K (fRn t o zeroCh (spOf ps) n)).p v H := fun v H h => by
    have h : (tE (fun n => Fin' t o (chOf t (.fn gOdd)) (spOf ps) n) fun n => tRun K (fRn t o (chOf t (.fn gOdd)) (spOf ps) n)).p v H := h
    rw [e5] at h
    exact h
  have to6 : ∀ v H, (tRuns K ⟨t, o, .plan (List.replicate t.len.length 0), ps⟩).p v H → (tE (fun n => Fin' t o zeroCh (spOf ps) n) fun n => tRun K (fRn t o zeroCh (spOf ps) n)).p v H := fun v H h => by
    have h : (tE (fun n => Fin' t o (chOf t (.plan (List.replicate t.len.length 0))) (spOf ps) n) fun n => tRun K (fRn t o (chOf t (.plan (List.replicate t.len.length 0))) (spOf ps) n)).p v H := h
    rw [e6] at h
    exact h
  refine q_lnew (P := tPr K) (Ps := [tPr K, tPr K]) (by repeat (first | exact CtxFx.nil | refine CtxFx.no ?_ | refine CtxFx.yes tD_fx ?_ | refine CtxFx.yes tV_fx ?_ | refine CtxFx.yes tTalk_fx ?_ | refine CtxFx.yes tRoad_fx ?_ | refine CtxFx.yes tRun_fx ?_ | refine CtxFx.yes tTape_fx ?_ | refine CtxFx.yes tCz_fx ?_)) (gai_cons (by repeat (first | exact CtxFx.nil | refine CtxFx.no ?_ | refine CtxFx.yes tD_fx ?_ | refine CtxFx.yes tV_fx ?_ | refine CtxFx.yes tTalk_fx ?_ | refine CtxFx.yes tRoad_fx ?_ | refine CtxFx.yes tRun_fx ?_ | refine CtxFx.yes tTape_fx ?_ | refine CtxFx.yes tCz_fx ?_)) tPr_fx (gi_of (gv_pair fin_eq (fin_ok tk ok vc1 rd) ((gv_var rfl).to to1) ((r_law_run (i := ⟨t, o, .plan (Rn t o (chOf t (.fn gRule)) (spOf ps) n1).rates, ps⟩) (gv_var rfl) (gv_var rfl) ((gv_Run_rates (r := rrOf (Rne ⟨t, o, .fn gRule, ps⟩ n1)) T (gv_var rfl)).to fun v H h => h) (gv_var rfl) ro3).to to3))) (gai_cons (by repeat (first | exact CtxFx.nil | refine CtxFx.no ?_ | refine CtxFx.yes tD_fx ?_ | refine CtxFx.yes tV_fx ?_ | refine CtxFx.yes tTalk_fx ?_ | refine CtxFx.yes tRoad_fx ?_ | refine CtxFx.yes tRun_fx ?_ | refine CtxFx.yes tTape_fx ?_ | refine CtxFx.yes tCz_fx ?_)) tPr_fx (gi_pair (by repeat (first | exact CtxFx.nil | refine CtxFx.no ?_ | refine CtxFx.yes tD_fx ?_ | refine CtxFx.yes tV_fx ?_ | refine CtxFx.yes tTalk_fx ?_ | refine CtxFx.yes tRoad_fx ?_ | refine CtxFx.yes tRun_fx ?_ | refine CtxFx.yes tTape_fx ?_ | refine CtxFx.yes tCz_fx ?_)) fin_eq (fin_ok tk ok vc2 rd) (gi_of ((gv_var rfl).to to2)) ((gi_law_run (i := ⟨t, o, .fn (gTell pl), ps⟩) (by repeat (first | exact CtxFx.nil | refine CtxFx.no ?_ | refine CtxFx.yes tD_fx ?_ | refine CtxFx.yes tV_fx ?_ | refine CtxFx.yes tTalk_fx ?_ | refine CtxFx.yes tRoad_fx ?_ | refine CtxFx.yes tRun_fx ?_ | refine CtxFx.yes tTape_fx ?_ | refine CtxFx.yes tCz_fx ?_)) (gv_var rfl) (gv_var rfl) ((gi_tell (pl := pl) (gv_var rfl)).to fun v H h => by
    rw [hp1] at h
    exact h) (gv_var rfl) ro4).to to4)) gai_nil)) (fun H vs hv x hx => by
      cases hv with
      | cons h1 t1 =>
        obtain ⟨u, e, h2⟩ := t1.one
        subst e
        rcases List.mem_cons.mp hx with e | hx
        · rw [e]; exact h1
        · have e : x = u := by simpa using hx
          rw [e]; exact h2) rfl fun p => ?_
  try dsimp only [List.set]
  refine q_lapp (by repeat (first | exact CtxFx.nil | refine CtxFx.no ?_ | refine CtxFx.yes tD_fx ?_ | refine CtxFx.yes tV_fx ?_ | refine CtxFx.yes tTalk_fx ?_ | refine CtxFx.yes tRoad_fx ?_ | refine CtxFx.yes tRun_fx ?_ | refine CtxFx.yes tTape_fx ?_ | refine CtxFx.yes tCz_fx ?_)) rfl (gv_pair fin_eq (fin_ok tk ok vz rd) ((r_law_run (i := ⟨t, o, .fn gOdd, ps⟩) (gv_var rfl) (gv_var rfl) (gv_c fun H => cz_odd T tk.le H) (gv_var rfl) ro5).to to5) ((r_law_run (i := ⟨t, o, .plan (List.replicate t.len.length 0), ps⟩) (gv_var rfl) (gv_var rfl) ((gv_rep (d := .int 0) (k := (t.len.length : Nat)) (gv_tupd (gd_cons gv_int gd_nil) rfl) (Gv.eq (gv_cb1 (gv_Talk_lengths T (gv_var rfl)) (gc_len (ds := t.len.map .int))) (by rw [List.length_map])) (by omega)).eq (d' := dI (List.replicate t.len.length 0)) (by rw [Int.toNat_natCast, dI, List.map_replicate])) (gv_var rfl) ro6).to to6)) tPr_fx (Nat.le_of_ble_eq_true rfl) ?_
  refine q_lapp (by repeat (first | exact CtxFx.nil | refine CtxFx.no ?_ | refine CtxFx.yes tD_fx ?_ | refine CtxFx.yes tV_fx ?_ | refine CtxFx.yes tTalk_fx ?_ | refine CtxFx.yes tRoad_fx ?_ | refine CtxFx.yes tRun_fx ?_ | refine CtxFx.yes tTape_fx ?_ | refine CtxFx.yes tCz_fx ?_)) rfl (gv_pair fin_eq (fin_ok tk ok vc1 rd) ((gv_var rfl).to to1) ((r_law_run (i := ⟨t, o, .fn gRule, ps⟩) (gv_var rfl) (gv_var rfl) (gv_c fun H => cz_rule T tk.le H) (gv_var rfl) ro1).to fun v H h => h)) tPr_fx (Nat.le_of_ble_eq_true rfl) ?_
  refine q_forP (C := fun r : Rr => RrOk r) (Pf := fun r => tT K [tRun K r, tRun K r]) rfl (fun H m => ⟨m.2.2.choose, m.2.2.choose_spec.1, m.2.2.choose_spec.2.2⟩) (fun σ H s => s) (fun r cr M' nx hM hnx => ⟨_, gt_tupT (gts_cons gt_name (gts_cons gt_name gts_nil)) rfl, ?_⟩) ?_
  · try dsimp only [List.set]
    refine go_if (b := false || false) (gb_or (gb_val (gv_runNe (r := r) (gv_var rfl) (gv_var rfl))) fun _ => gb_val (gv_op (r_fields (gv_var rfl) cr) (r_fields (gv_var rfl) cr) (g2_neS1 rfl))) (fun h => nomatch h) (fun _ => ?_)
    exact go_next (hnx.wk (.keep (.keep (.keep (.keep (.keep (.keep (.keep (.keep (.keep (.keep (.keep (.keep (.keep (.keep (.keep (.any (.any (.keep (.keep (.keep (.keep .nil))))))))))))))))))))))
  refine q_when (b := false) (gb_val (gv_neD0 (n := 2) (gv_Run_rates T (gv_var rfl)) (gv_var rfl) (by rw [e2]) .dI (by decide))) (fun h => nomatch h) (fun _ => ?_)
  refine go_weakM (fun H m => ls_dt m) ?_
  refine q_lnew (P := tV .non) (Ps := []) (by repeat (first | exact CtxFx.nil | refine CtxFx.no ?_ | refine CtxFx.yes tD_fx ?_ | refine CtxFx.yes tV_fx ?_ | refine CtxFx.yes tTalk_fx ?_ | refine CtxFx.yes tRoad_fx ?_ | refine CtxFx.yes tRun_fx ?_ | refine CtxFx.yes tTape_fx ?_ | refine CtxFx.yes tCz_fx ?_)) gai_nil (fun H vs hv x hx => by cases hv; cases hx) rfl fun p2 => ?_
  try dsimp only [List.set]
  have en : (rrOf (Rne ⟨t, o, .fn gRule, ps⟩ n1)).ended = (n1 : Int) := by
    show (((Rn t o (chOf t (.fn gRule)) (spOf ps) n1).b : Nat) : Int) = _
    rw [Rn_b]
  obtain ⟨cs, hcs⟩ : ∃ cs : Nat → Cz, cs = fun i => match i with
    | 0 => .fn gRule
    | _ + 1 => .plan (Rn t o (chOf t (.fn gRule)) (spOf ps) n1).rates := ⟨_, rfl⟩
  have cs0 : cs 0 = .fn gRule := by rw [hcs]
  have cs1 : cs 1 = .plan (Rn t o (chOf t (.fn gRule)) (spOf ps) n1).rates := by rw [hcs]
  clear hcs
  refine go_weakM (M' := Hm.ls (T0 K) a l (c + 200) p2 (tV .non) 0) (fun H m => ⟨⟨m.1.1.mono (by omega), m.1.2⟩, m.2⟩) ?_
  refine q_forM (α := List Addr) (n := 2) (T := fun i => tCz P w K mg base t.N (cs i)) (gi_tupT (Ps := [tCz P w K mg base t.N (cs 0), tCz P w K mg base t.N (cs 1)]) (gv_tupT (ga_cons (gv_c fun H => by rw [cs0]; exact cz_rule T tk.le H) (ga_cons ((gv_Run_rates (r := rrOf (Rne ⟨t, o, .fn gRule, ps⟩ n1)) T (gv_var rfl)).to fun v H h => by rw [cs1]; exact h) ga_nil)) rfl) (fun i P hi => match i, hi with
    | 0, hi => by cases hi; rfl
    | 1, hi => by cases hi; rfl
    | i + 2, hi => by simp at hi) (AllFx.mem (.cons tCz_fx (.cons tCz_fx .nil)))) (fun _ _ => [some (tV (.ref a)), some (tTalk K t), some (tD K (dOp o)), some (tD K (.int o.beg)), some (tD K (.int o.aga)), some (tD K (.int o.mst)), some (tD K (.int o.wai)), none, none, some (tRoad K ps), some (tD K (dI pl)), none, some (tRun K (rrOf (Rne ⟨t, o, .fn gRule, ps⟩ n1))), some (tRun K (rrOf (Rne ⟨t, o, .plan pl, ps⟩ n2))), some (tV (.ref p)), none, none, some (tV (.ref p2)), none, none, none]) (fun H1 _ ds => Hm.tp P w K mg base (T0 K) a l (c + 200) p2 t o cs H1 (tdK (spOf ps) n1) ds) (fun i ds => ds.length = i) [] rfl (fun σ H s => s) (fun H1 m => ⟨.refl H1, m.1, m.2.1, by
      obtain ⟨xs, h1, h2, h3⟩ := m.2.2
      exact ⟨xs, h1, h2, fun j d x hj _ => by simp at hj⟩⟩) (fun H1 i ds H' m h => h.1) (fun H1 i ds m hi hc nx hnx => ⟨_, gt_name, ?_⟩) (fun H1 ds m hc => ?_)
  · try dsimp only [List.set]
    refine q_tape (i := 19) (wj := ⟨t, o, cs i⟩) (ds := ds) tk ok (gv_var rfl) (gv_var rfl) (gv_var rfl) (gv_var rfl) (gv_var rfl) (gv_var rfl) (fun H d m hd => tp_fresh m hd) fun d => ?_
    try dsimp only [List.set]
    refine q_forM (α := Unit) (n := n1) (T := fun k => tD K (.int (k : Nat))) (gi_rngN (ga_cons (Gv.eq (gv_Run_ended T (gv_var rfl)) (by rw [en])) ga_nil) (by omega) fun _ => rfl) (fun _ _ => [some (tV (.ref a)), some (tTalk K t), some (tD K (dOp o)), some (tD K (.int o.beg)), some (tD K (.int o.aga)), some (tD K (.int o.mst)), some (tD K (.int o.wai)), none, none, some (tRoad K ps), some (tD K (dI pl)), none, some (tRun K (rrOf (Rne ⟨t, o, .fn gRule, ps⟩ n1))), some (tRun K (rrOf (Rne ⟨t, o, .plan pl, ps⟩ n2))), some (tV (.ref p)), none, none, some (tV (.ref p2)), some (tCz P w K mg base t.N (cs i)), some (tTape P w K mg base ⟨t, o, cs i⟩ d), none]) (fun H2 k _ => Hm.im H2 (Hm.tpd (Hm.tp P w K mg base (T0 K) a l (c + 200) p2 t o cs H1 (tdK (spOf ps) n1) ds) ds d (tdK (spOf ps) k))) (fun _ _ => True) () trivial (fun σ H s => s) (fun H2 m => ⟨.refl H2, m⟩) (fun H2 k _ H' m h => h.1) (fun H2 k _ m hk _ nx2 hnx2 => ⟨_, gt_name, ?_⟩) (fun H2 _ m _ => ?_)
    · try dsimp only [List.set]
      refine gm_tell (i := 19) (j := 0) (wj := ⟨t, o, cs i⟩) (d := d) (b := (k : Nat)) (n := spOf ps k) (kv := tdK (spOf ps) k) (by repeat (first | exact CtxFx.nil | refine CtxFx.no ?_ | refine CtxFx.yes tD_fx ?_ | refine CtxFx.yes tV_fx ?_ | refine CtxFx.yes tTalk_fx ?_ | refine CtxFx.yes tRoad_fx ?_ | refine CtxFx.yes tRun_fx ?_ | refine CtxFx.yes tTape_fx ?_ | refine CtxFx.yes tCz_fx ?_)) rfl (gv_var rfl) (Gv.eq (r_speed_at (ps := ps) (b := (k : Int)) (gv_var rfl) (gv_var rfl) ps1 ps2) rfl) (fun H m => m.2.2.2) (Nat.le_trans (tdK_len _ _) (by omega)) (by omega) (rd.pos k) fun H H' m kp hd' σ s => ?_
      exact hnx2 () trivial σ H' ⟨m.1.trans (im_dict m.2.2.2 kp), tp_tell m.2.1 m.2.2.1 m.2.2.2 kp, m.2.2.1, hd'⟩ (s.wk (.keep (.keep (.keep (.keep (.keep (.keep (.keep (.keep (.keep (.keep (.keep (.keep (.keep (.keep (.keep (.keep (.keep (.keep (.keep (.keep (.any .nil))))))))))))))))))))))
    · intro σ H m s
      obtain ⟨v17, h17, hv⟩ := s.at_ 17 _ rfl
      obtain rfl : v17 = .ref p2 := hv
      obtain ⟨v19, h19, hx⟩ := s.at_ 19 _ rfl
      obtain ⟨_, mt, nd, hd⟩ := id m
      obtain ⟨_, _, _, xs, hx1, hx2, _⟩ := id mt
      have hc : ds.length = i := hc
      have im : Im H (upd H p2 (.lst (xs ++ [v19]))) := .put hx1 (fun z => z)
      refine ⟨_, h17, .inl ⟨rfl, _, SqL.of hx1⟩, _, h19, p2, _, v19, rfl, rfl, hx1, small1000 (by omega), ?_⟩
      have gx : CtxFx ([some (tV (.ref a)), some (tTalk K t), some (tD K (dOp o)), some (tD K (.int o.beg)), some (tD K (.int o.aga)), some (tD K (.int o.mst)), some (tD K (.int o.wai)), none, none, some (tRoad K ps), some (tD K (dI pl)), none, some (tRun K (rrOf (Rne ⟨t, o, .fn gRule, ps⟩ n1))), some (tRun K (rrOf (Rne ⟨t, o, .plan pl, ps⟩ n2))), some (tV (.ref p)), none, none, some (tV (.ref p2)), some (tCz P w K mg base t.N (cs i)), some (tTape P w K mg base ⟨t, o, cs i⟩ d), none]) := (by repeat (first | exact CtxFx.nil | refine CtxFx.no ?_ | refine CtxFx.yes tD_fx ?_ | refine CtxFx.yes tV_fx ?_ | refine CtxFx.yes tTalk_fx ?_ | refine CtxFx.yes tRoad_fx ?_ | refine CtxFx.yes tRun_fx ?_ | refine CtxFx.yes tTape_fx ?_ | refine CtxFx.yes tCz_fx ?_))
      exact hnx (ds ++ [d]) (by show (ds ++ [d]).length = i + 1; rw [List.length_append, hc]; rfl) σ _ (tp_app mt hx1 (by rw [hc]; exact ⟨hx, hd⟩)) ((gx.sat s im).wk (.keep (.keep (.keep (.keep (.keep (.keep (.keep (.keep (.keep (.keep (.keep (.keep (.keep (.keep (.keep (.keep (.keep (.keep (.any (.any (.any .nil))))))))))))))))))))))
  · have hc : ds.length = 2 := hc
    match ds, hc with
    | [d0, d1], _ =>
    refine go_to (i := 17) (P := tV (.ref p2)) (R := tTs P w K mg base t o cs (tdK (spOf ps) n1) d0 d1) rfl (fun v H m hv => by
      obtain rfl : v = .ref p2 := hv
      exact tp_two m) ?_
    try dsimp only [List.set]
    refine q_for (n := [((n1 / 2 : Nat) : Int), (n1 : Int)].length) (T := fun k => tD K (.int ([((n1 / 2 : Nat) : Int), (n1 : Int)].getD k 0))) (gi_ints (ns := [((n1 / 2 : Nat) : Int), (n1 : Int)]) (gv_tupd (gd_cons (Gv.eq (gv_i1 (Gv.eq (gv_Run_ended T (gv_var rfl)) (by rw [en])) gv_int ⟨by decide, by decide⟩) (by
      rw [Int.fdiv_eq_ediv_of_nonneg _ (by decide)]
      rfl)) (gd_cons (Gv.eq (gv_Run_ended T (gv_var rfl)) (by rw [en])) gd_nil)) rfl)) (fun _ => [some (tV (.ref a)), some (tTalk K t), some (tD K (dOp o)), some (tD K (.int o.beg)), some (tD K (.int o.aga)), some (tD K (.int o.mst)), some (tD K (.int o.wai)), none, none, some (tRoad K ps), some (tD K (dI pl)), none, some (tRun K (rrOf (Rne ⟨t, o, .fn gRule, ps⟩ n1))), some (tRun K (rrOf (Rne ⟨t, o, .plan pl, ps⟩ n2))), some (tV (.ref p)), none, none, some (tTs P w K mg base t o cs (tdK (spOf ps) n1) d0 d1), none, none, none]) (fun σ H s => s) (fun k hk M' nx hM hnx => ⟨_, gt_name, ?_⟩) ?_
    · try dsimp only [List.set]
      obtain ⟨m, hm, em⟩ : ∃ m : Nat, m ≤ n1 ∧ [((n1 / 2 : Nat) : Int), (n1 : Int)].getD k 0 = (m : Int) := match k, hk with
        | 0, _ => ⟨n1 / 2, Nat.div_le_self _ _, rfl⟩
        | 1, _ => ⟨n1, Nat.le_refl _, rfl⟩
      rw [em]
      have pc : ∀ i : Nat, i < n1 → paceOf (tdK (spOf ps) n1) (i : Int) = spOf ps i := fun i hi => tdK_pace hi
      have c0 : Tw1Ok ⟨⟨t, o, cs 0⟩, d0, tdK (spOf ps) n1, m⟩ := ⟨tk, ok, by show Cz.ok t.N (cs 0); rw [cs0]; exact gRule_flat, by show Vch t (chOf t (cs 0)); rw [cs0]; exact vc1, by show m ≤ 800; omega, tdK_ok rd.pos n1⟩
      have c1 : Tw1Ok ⟨⟨t, o, cs 1⟩, d1, tdK (spOf ps) n1, m⟩ := ⟨tk, ok, by show Cz.ok t.N (cs 1); rw [cs1]; exact rl1, by show Vch t (chOf t (cs 1)); rw [cs1]; exact vch_plan rl1 rl2, by show m ≤ 800; omega, tdK_ok rd.pos n1⟩
      have eW : Tw1.W ⟨⟨t, o, cs 0⟩, d0, tdK (spOf ps) n1, m⟩ = Tw1.W ⟨⟨t, o, cs 1⟩, d1, tdK (spOf ps) n1, m⟩ := by
        show Tp t o (chOf t (cs 0)) (fun k => paceOf (tdK (spOf ps) n1) k) m = Tp t o (chOf t (cs 1)) (fun k => paceOf (tdK (spOf ps) n1) k) m
        rw [cs0, cs1, Tp_cut pc m hm, Tp_cut pc m hm]
        exact (tape_same tk ok vc1 rd f1 m hm).symm
      refine q_when (b := false) (gb_val (gv_neD0 (n := 1) (r_behind (x := ⟨⟨t, o, cs 0⟩, d0, tdK (spOf ps) n1, m⟩) (gv_ts0 (gv_var rfl)) (gv_var rfl) c0) (r_behind (x := ⟨⟨t, o, cs 1⟩, d1, tdK (spOf ps) n1, m⟩) (gv_ts1 (gv_var rfl)) (gv_var rfl) c1) (by rw [eW]) (.tup (Lays.mem (.cons .int (.cons .int (.cons .int (.cons .int (.cons .int (.cons .int .nil)))))))) (by decide))) (fun h => nomatch h) (fun _ => ?_)
      refine go_if (b := false) (gb_val (gv_neD0 (n := 2) (r_till (x := ⟨⟨t, o, cs 0⟩, d0, tdK (spOf ps) n1, m⟩) (gv_ts0 (gv_var rfl)) (gv_var rfl) c0) (r_till (x := ⟨⟨t, o, cs 1⟩, d1, tdK (spOf ps) n1, m⟩) (gv_ts1 (gv_var rfl)) (gv_var rfl) c1) (by rw [eW]) .dI (by decide))) (fun h => nomatch h) (fun _ => ?_)
      exact go_next (hnx.wk (.keep (.keep (.keep (.keep (.keep (.keep (.keep (.keep (.keep (.keep (.keep (.keep (.keep (.keep (.keep (.keep (.keep (.keep (.any (.any (.any .nil))))))))))))))))))))))
    · exact go_ret (R := tD K (.bool true)) gv_bl (fun v H' m' hv => by
        rw [Du.bl_inv hv]
        exact q H' m'.2.1.1 m'.2.1.2) fun _ _ h => h
end
end RP
set_option maxHeartbeats 4000000
namespace RP
open PySem PySem.Spec PyProof.Rows L2
section
variable {P : Program} {w : World} {K : PySem.W.Frag} {mg : Str → Option Value} {base : Heap} {Γ Γ' : Ctx} {ta tb te : TE} {a l : Addr} {c : Nat} {M : Hm} {D : Ends} {t u tl : TS} {T : List NdefX.NTab} {g : TG}
theorem gc_max2 {i j : Int} : Gc (fun xs H Q => ∃ i j, xs = [V.int i, V.int j] ∧ Q (V.int (if j > i then j else i)) H) [tD K (.int i), tD K (.int j)] (tD K (.int (if j > i then j else i))) := fun vs H Q hv q => by
  obtain ⟨v, u, rfl, h1, h2⟩ := hv.two
  exact ⟨i, j, by rw [Du.int_inv h1, Du.int_inv h2], q _ H (.refl H) (.int _)⟩
theorem gc_min2 {i j : Int} : Gc (fun xs H Q => ∃ i j, xs = [V.int i, V.int j] ∧ Q (V.int (if j < i then j else i)) H) [tD K (.int i), tD K (.int j)] (tD K (.int (if j < i then j else i))) := fun vs H Q hv q => by
  obtain ⟨v, u, rfl, h1, h2⟩ := hv.two
  exact ⟨i, j, by rw [Du.int_inv h1, Du.int_inv h2], q _ H (.refl H) (.int _)⟩
/-- names that hold plain values alone -/
theorem Sat.free {σ : L2.St} {H H' : Hp} (s : Sat Γ σ H) (hf : ∀ (i : Nat) (P : Ty), Γ[i]? = some (some P) → ∃ v, P = tV v) : Sat Γ σ H' := ⟨s.len, fun i P h => by
  obtain ⟨v, h1, h2⟩ := s.at_ i P h
  obtain ⟨x, rfl⟩ := hf i P h
  exact ⟨v, h1, h2⟩⟩
/-- for .. in range(n), the heap's claim by the turn -/
theorem q_forRM {ra : TA} {n : Nat} (Ms : Nat → Hm) (he : Ga Γ ra [tD K (.int (n : Nat))]) (hn : n < 2 ^ 61) (h0 : ∀ σ H, Sat Γ σ H → Sat Γ' σ H) (hm : ∀ H, M.p H → (Ms 0).p H)
    (hs : ∀ i, i < n → ∀ nx : L2.St → Hp → Prop, Nx (Ms (i + 1)) Γ' nx → ∃ Γ2, Gt Γ' g (tD K (.int (i : Nat))) Γ2 ∧ Go (Ms i) Γ2 { D with nx := nx, ct := nx, bk := u D } tl)
    (hd : Go (Ms n) Γ' D u) : Go M Γ D (tSeq (tFor (iRng1 ra) g tl) u) := fun σ H mm s => he σ H _ s fun vs H1 e1 hv => by
  obtain ⟨v, e, h⟩ := hv.one
  subst e
  obtain rfl := Du.int_inv h
  refine ⟨(n : Int), rfl, by omega, by omega, ?_⟩
  rw [Int.toNat_natCast]
  refine for_it (walk_range (lo := 0) (n := n)) (fun i σ' H' => (Ms i).p H' ∧ Sat Γ' σ' H') ⟨hm H1 (M.up e1 mm), h0 σ H1 (s.up e1)⟩ (fun _ _ _ _ _ => trivial) (fun i x σ' H' H'' hi p y => ?_) fun σ' H' p => hd σ' H' p.1 p.2
  obtain ⟨eH, ex⟩ := y
  subst eH
  obtain ⟨Γ2, hg, hb⟩ := hs i hi (fun σ2 H2 => (Ms (i + 1)).p H2 ∧ Sat Γ' σ2 H2) fun σ2 H2 m2 s2 => ⟨m2, s2⟩
  have ex' : x = .int (i : Nat) := by
    rw [ex]
    show V.int (0 + (i : Nat)) = _
    rw [Int.zero_add]
  rw [ex']
  exact hg _ σ' _ _ p.2 (Du.int _) fun σ2 H2 e2 s2 => hb σ2 H2 ((Ms i).up e2 p.1) s2
/-- x = a deck -/
theorem q_deck {i : Nat} (h : Gv Γ te (tDk 0)) (k : ∀ a l, Go (Hm.dt T a l 0) (Γ.set i (some (tV (.ref a)))) D u) : Go ⟨fun H => NdefX.TabsN T H, fun e h => h.ext e⟩ Γ D (tSeq (tAsg te (gName i)) u) := fun σ H m s =>
  h σ H _ s fun v H1 e1 ⟨a, l, ev, hd⟩ => by
    subst ev
    exact k a l _ H1 ⟨hd, NdefX.TabsN.ext m e1⟩ ((s.up e1).set (P := tV (.ref a)) i rfl)
/-- both halves of the law hold -/
theorem gm_right {i : Nat} (hi : Γ[i]? = some (some (tV (.ref a)))) (hb : c + 400 ≤ 1000000) (k : ∀ σ H H', Sat Γ σ H → (Hm.dt (T0 K) a l (c + 400)).p H' → D.nx σ H') :
    Go (Hm.dt (T0 K) a l c) Γ D (tIfS (tOr (tNot (tB (tCall (spRight K) [] E0 (tCons (tVar i) tNil)))) (tNot (tB (tCall (spRight K) [] E0 (tCons (tVar i) tNil))))) t tNext) := fun σ H m s => by
  obtain ⟨v, h1, h2⟩ := s.at_ i _ hi
  obtain rfl : v = .ref a := h2
  refine ⟨_, h1, a, l, c, rfl, m.1, m.2, by omega, fun H1 d1 t1 => ⟨true, rfl, ?_⟩⟩
  refine iteF ⟨_, h1, a, l, c + 200, rfl, d1, t1, by omega, fun H2 d2 t2 => ⟨true, rfl, iteF ?_⟩⟩
  exact k σ H H2 s ⟨d2.mono (by omega), t2⟩
theorem sc_law : FnScope ["_law_script", "_law_deck_here", "_law_turn"] ["_law_script"] (defScope s_law) := ⟨rfl, rfl, rfl, by decide +kernel, rfl, by decide +kernel, by decide +kernel⟩
def spLaw (K : PySem.W.Frag) : Sp := fun vs H Q _ => ∃ ns : List Int, ns.length ≤ 63 ∧ Pv H [tL K (ns.map .int)] vs ∧ NdefX.TabsN (T0 K) H ∧ ∀ H', Q (.bl true) H'
abbrev FLaw (K : PySem.W.Frag) (fd : FuncData) : Prop := FunD K d_law.name d_law.qual d_law.params d_law.body d_law.scope (d_law.dvs K) (d_law.kws K) (He.fAd K d_law.at_) fd
theorem b_law {fd : FuncData} (F : FLaw K fd) : Binds K fd ["_law_script"] [] := F.bindsN (fun _ _ _ _ _ _ us hl => match us, hl with | [_], _ => rfl)
theorem c_law (T : Txt K mg) (TB : LamX.TabB base mg (He.cT K tdn).1 (He.cT K tdn).2) {fd : FuncData} (F : FLaw K fd) : FnOkG P w K mg base CX0 13 (He.ga K "law") fd ["_law_script"] (spLaw K) := by
  have _ := T
  ·
    refine okG F sc_law (fun vs H Q E ⟨ns, _, h, _⟩ => h.len) fun cdv A outer s H vs Q E hg hr ⟨ns, l63, h, tb, q⟩ => ?_
    refine ⟨_, PSs.nox (pss_cons (ps_set (i := 1) sc_law.nd rfl (Or.inl rfl) (pe_cal (c_law_deck T) hr (by decide) rfl (pa_cons (pv 0) pa_nil))) (pss_cons (ps_for PassesOwn.never rfl (pi_range1 (by rfl) T.f_range (pa_cons (pe_callB (id := "max") (call_max2 (by rfl)) (by rfl) T.f_max (by decide +kernel) (pa_cons pe_int (pa_cons (pe_callB (id := "min") (call_min2 (by rfl)) (by rfl) T.f_min (by decide +kernel) (pa_cons pe_int (pa_cons (pe_callB (id := "len") (r := rLn K) call_len_seq (by rfl) T.f_len (by decide +kernel) (pa_cons (pv 0) pa_nil)) pa_nil))) pa_nil))) pa_nil)) (pg_name (i := 2) sc_law.nd rfl (Or.inl rfl)) (pss_one (ps_if (PW.pt (pw_or (pt_not (pt_val (pe_calG (c_law_runs_right T TB) hg hr (by decide) rfl (pa_cons (pv 1) pa_nil)))) (pw_or1 (pt_not (pt_val (pe_calG (c_law_nevers_right T TB) hg hr (by decide) rfl (pa_cons (pv 1) pa_nil))))))) (pss_one (ps_ret pe_bl)) pss_nil))) (pss_one (ps_ret pe_bl)))), ?_⟩
    refine go_run (M := ⟨fun H => NdefX.TabsN (T0 K) H, fun e h => h.ext e⟩) ?_ tb h.ent
    try dsimp only [Cx.nox, cxOf, ent, List.map, List.length_cons, List.length_nil, List.replicate_succ, List.replicate_zero, List.cons_append, List.nil_append, List.set]
    refine q_deck (gv_call0 (ι := List Int) ns (ga_cons (gv_var rfl) ga_nil) rfl l63) fun a l => ?_
    try dsimp only [List.set]
    obtain ⟨n, hn, en⟩ : ∃ n : Nat, n ≤ 2 ∧ (if (if ((ns.map PyData.int).length : Int) < 2 then ((ns.map PyData.int).length : Int) else 2) > 1 then (if ((ns.map PyData.int).length : Int) < 2 then ((ns.map PyData.int).length : Int) else 2) else 1) = (n : Int) := by
      by_cases h2 : ((ns.map PyData.int).length : Int) < 2
      · rw [if_pos h2]
        by_cases h3 : ((ns.map PyData.int).length : Int) > 1
        · rw [if_pos h3]
          exact ⟨(ns.map PyData.int).length, by omega, rfl⟩
        · rw [if_neg h3]
          exact ⟨1, by decide, rfl⟩
      · rw [if_neg h2, if_pos (by decide)]
        exact ⟨2, by decide, rfl⟩
    refine q_forRM (K := K) (n := n) (Γ' := [none, some (tV (.ref a)), none]) (fun i => Hm.dt (T0 K) a l (0 + 400 * i)) (ga_cons (Gv.eq (gv_cb (ga_cons (gv_int (K := K) (i := 1)) (ga_cons (gv_cb (ga_cons (gv_int (K := K) (i := 2)) (ga_cons (gv_cb1 (gv_var rfl) (gc_lenL (ds := ns.map .int))) ga_nil)) gc_min2) ga_nil)) gc_max2) (by rw [en])) ga_nil) (by omega) (fun σ H s => s.wk (.any (.keep (.any .nil)))) (fun H m => m) (fun i hi nx hnx => ⟨_, gt_name, ?_⟩) ?_
    · try dsimp only [List.set]
      refine gm_right (i := 1) rfl (by omega) fun σ H H' s m => ?_
      refine hnx σ H' m ((s.wk (.keep (.keep (.any .nil)))).free fun i P hi => ?_)
      match i, hi with
      | 0, hi => cases hi
      | 1, hi => cases hi; exact ⟨_, rfl⟩
      | 2, hi => cases hi
      | i + 3, hi => simp at hi
    · exact go_ret (R := tD K (.bool true)) gv_bl (fun v H' m' hv => by
        rw [Du.bl_inv hv]
        exact q H') fun _ _ h => h
end
end RP
set_option maxHeartbeats 4000000
namespace RP
open PySem PySem.Spec PyProof.Rows L2
/-! ### the law called from the claim's own frame, no display open -/
section
variable {P : Program} {w : World} {K : PySem.W.Frag} {mg mb : Str → Option Value} {k : Nat} {fa a c p : Addr} {fd : FuncData} {x : Str} {sp : Sp} {S : Shared} {vs : List Value} {ns : List Int}
abbrev scriptO (vs : List Value) : Obj := { cls := .type "list", data := .seq vs.toArray }
abbrev tabO : Obj := { cls := .none, data := .fields #[] }
/-- what is tracked at the call: the table, the script where the head has not seen it -/
structure Trk (P : Program) (w : World) (K : PySem.W.Frag) (S : Shared) (a p : Addr) (ns : List Int) (H : Hp) : Prop where
  tab : H p = some (.tbl #[])
  scr : SqL K H a (ns.map V.int)
  only : ∀ b u, H b = some u → b = p ∨ (b = a ∧ K.lookup a = none ∧ ∃ o z, u = .frz o z)
  hok : HOk P w H S.heap
theorem trk_of (hT : S.heap.get? p = some tabO) (ha : S.heap.get? a = some (scriptO vs)) (KX : K.In S.heap) (hi : IntsAre vs ns) (hl : ns.length ≤ sizeLine) : ∃ H, Trk P w K S a p ns H := by
  have rv : Vals (ns.map V.int) vs := vals_ints hi
  have lv : vs.length = ns.length := hi.length
  have nap : a ≠ p := fun z => by
    rw [z, hT] at ha
    cases ha
  cases hk : K.lookup a with
  | some o =>
    have eo := KX a o hk
    rw [ha] at eo
    have eo := Option.some.inj eo
    subst eo
    refine ⟨fun b => if b = p then some (.tbl #[]) else none, if_pos rfl, .inr ⟨scriptO vs, vs.toArray, _, hk, rfl, rfl, rfl, ?_, by simpa using rv⟩, fun b u e => ?_, fun b u e => ?_⟩
    · rw [List.size_toArray, lv]
      exact hl
    · by_cases q : b = p
      · exact .inl q
      · rw [if_neg q] at e
        cases e
    · by_cases q : b = p
      · rw [if_pos q] at e
        cases e
        rw [q]
        exact hT
      · rw [if_neg q] at e
        cases e
  | none =>
    refine ⟨upd (fun b => if b = p then some (.tbl #[]) else none) a (.frz (scriptO vs) (.lst (ns.map V.int))), ?_, .inl (.inr ⟨scriptO vs, upd_same⟩), fun b u e => ?_, fun b u e => ?_⟩
    · rw [upd_ne nap.symm]
      exact if_pos rfl
    · by_cases q : b = a
      · rw [q, upd_same] at e
        cases e
        exact .inr ⟨q, hk, _, _, rfl⟩
      · rw [upd_ne q] at e
        by_cases q2 : b = p
        · exact .inl q2
        · rw [if_neg q2] at e
          cases e
    · by_cases q : b = a
      · rw [q, upd_same] at e
        cases e
        rw [q]
        exact ⟨ha, by rw [List.length_map]; exact hl, vs, _, rv, ha⟩
      · rw [upd_ne q] at e
        by_cases q2 : b = p
        · rw [if_pos q2] at e
          cases e
          rw [q2]
          exact hT
        · rw [if_neg q2] at e
          cases e
theorem callG (KX : K.In S.heap) (gl : S.heap.Ns mainGlobals mg) (bl : S.heap.Ns builtinsNs mb) (bb : ∀ x : Str, x ≠ "__name__" → mb x = bootBuiltins x) (nl : S.heap.NoLimit) (gn : S.gens = #[])
    (hT : S.heap.get? p = some tabO) (nT : K.lookup p = none) (hc : PySem.W.codeHdIn K c p = true) (bm : ∃ (m : Addr) (ob : Obj), mg "__builtins__" = some (.ref m) ∧ m ≠ builtinsNs ∧ S.heap.get? m = some ob ∧ ob.cls = .type "module" ∧ ob.dict = some builtinsNs ∧ ob.data = .plain)
    (ha : S.heap.get? a = some (scriptO vs)) (hi : IntsAre vs ns) (hl : ns.length ≤ sizeLine) (hr : Room k callerA)
    (F : ∀ b0 : Heap, K.In b0 → b0.Ns mainGlobals mg → LamX.TabB b0 mg c p → FnOkG P w K mg b0 CX0 k fa fd [x] sp) (hb : Binds K fd [x] [])
    (hsp : ∀ H : Hp, H p = some (.tbl #[]) → SqL K H a (ns.map V.int) → sp [.ref a] H (fun v _ => v = .bl true) E0) :
    codeAny (model P w) callerA (.call (.ref fa) ⟨[.ref a], []⟩) (fun r s' => r = .ok (.ret (.bool true)) ∧ OldK S.heap s'.heap ∧ s'.os = S.os ∧ AllBare s'.gens) S := by
  obtain ⟨H, trk⟩ := trk_of (P := P) (w := w) hT ha KX hi hl
  -- an object of another kind is not tracked
  have free : ∀ {b : Addr} {o : Obj}, S.heap.get? b = some o → o ≠ scriptO vs → o ≠ tabO → H b = none := fun {b o} e n1 n2 => by
    cases q : H b with
    | none => rfl
    | some u =>
      rcases trk.only b u q with z | ⟨z, _⟩
      · rw [z, hT] at e
        exact absurd (Option.some.inj e).symm n2
      · rw [z, ha] at e
        exact absurd (Option.some.inj e).symm n1
  have dictF : ∀ {b : Addr} {o : Obj} {es : Array DictEntry} {n : Nat}, S.heap.get? b = some o → o.data = .dict es n → H b = none := fun {b o es n} e hd => free e (fun z => by
    rw [z] at hd
    cases hd) (fun z => by
    rw [z] at hd
    cases hd)
  have see : ∀ {b : Addr} {m : Str → Option Value}, S.heap.Ns b m → (hidT S.heap H).Ns b m := fun {b m} z => by
    obtain ⟨o, es, n, z1, z2, z3⟩ := z
    exact ⟨o, es, n, hidT_get z1 (dictF z1 z2), z2, z3⟩
  have hK : K.In (hidT S.heap H) := fun b o e => by
    refine hidT_get (KX b o e) ?_
    cases q : H b with
    | none => rfl
    | some u =>
      rcases trk.only b u q with z | ⟨z, z2, _⟩
      · rw [z, nT] at e
        cases e
      · rw [z, z2] at e
        cases e
  have md : Mod K mg (hidT S.heap H) := by
    obtain ⟨mc, l1, l2⟩ := nl
    exact ⟨hK, see gl, ⟨mb, see bl, bb⟩, mc, see l1, l2⟩
  have hg : mainGlobals ≠ p := fun z => by
    obtain ⟨o, es, n, g1, g2, _⟩ := gl
    rw [z, hT] at g1
    rw [← Option.some.inj g1] at g2
    cases g2
  have tb : LamX.TabB (hidT S.heap H) mg c p := by
    refine ⟨PySem.W.codeHd_of_K hK hc, ?_, hg⟩
    obtain ⟨m, ob, m1, m2, m3, m4, m5, m6⟩ := bm
    refine ⟨m, ob, m1, m2, fun z => ?_, fun z => ?_, hidT_get m3 (free m3 (fun z => ?_) (fun z => ?_)), m4, m5, m6⟩
    · obtain ⟨o, es, n, g1, g2, _⟩ := gl
      rw [z, g1] at m3
      rw [Option.some.inj m3, m6] at g2
      cases g2
    · rw [z, hT] at m3
      rw [← Option.some.inj m3] at m6
      cases m6
    · rw [z] at m6
      cases m6
    · rw [z] at m6
      cases m6
  have env : Env0 P w K mg (hidT S.heap H) callerA [] S H := ⟨rfl, md, fun b o => of_hidT, Nat.le_of_eq (hidT_size _ _), trivial, fun b h => (nomatch h), trk.hok, .of_eq gn⟩
  have bnd := hb S [.ref a] KX rfl
  refine codeAny_mono ((F _ hK (see gl) tb).run callerA [] S H ⟨[.ref a], []⟩ [.ref a] [.ref a] (fun v _ => v = .bl true) E0 rfl hr env bnd (.cons rfl .nil) (hsp H trk.tab trk.scr)) fun r s' h => ?_
  match r, h with
  | .ok (.ret u), ⟨v, H', os, bare, un, ok', rv, ev⟩ =>
    have ev : v = .bl true := ev
    subst ev
    have eu : u = .bool true := rv
    subst eu
    have keep : ∀ b o, b ≠ p → S.heap.get? b = some o → s'.heap.get? b = some o := fun b o nb e => by
      cases q : H b with
      | none => exact un.keep b o e q (fun z => nomatch z) (fun z => nomatch z)
      | some u =>
        rcases trk.only b u q with z | ⟨_, _, o', z, rfl⟩
        · exact absurd z nb
        · have e1 := (trk.hok b _ q).1
          rw [e] at e1
          rw [Option.some.inj e1]
          exact (ok' b _ (un.frzs b _ _ q)).1
    obtain ⟨more, grown⟩ := un.tbls p #[] trk.tab
    have tab' := ok' p _ grown
    refine ⟨rfl, ⟨fun b o e => ?_, fun b o e => ?_⟩, os, bare⟩
    · by_cases q : b = p
      · subst q
        rw [hT] at e
        cases e
        exact .inr (.inl ⟨((PySem.W.codeHd_of_K KX hc).tab hT).isCodeTable, rfl, #[], #[] ++ more, rfl, by rw [Array.empty_append]; exact tab'⟩)
      · exact .inl (keep b o q e)
    · by_cases q : b = p
      · subst q
        exact ⟨_, tab'⟩
      · exact ⟨o, keep b o q e⟩
end
end RP
set_option maxHeartbeats 0
namespace RP
open PySem PySem.Spec PyProof.Rows L2
theorem tabs0 {K : PySem.W.Frag} {H : Hp} (h : H (He.cT K tdn).2 = some (.tbl #[])) : NdefX.TabsN (T0 K) H := fun q hq => by
  have e : q = ((He.cT K tdn).2, fun _ _ => tellQ ++ "_law_told") := by simpa using hq
  subst e
  refine ⟨#[], h, ?_, fun pos cv z => ?_⟩
  · first
      | trivial
      | exact .nil
      | (unfold TriplesOk; simp)
  · cases z
theorem law_fa {K : PySem.W.Frag} {h : Heap} {mg : Str → Option Value} {f : Addr} (T : Txt K mg) (e : mg ("law" : Str) = some (.ref f)) : f = He.ga K "law" := by
  have z := e.symm.trans T.g_law
  cases z
  rfl
end RP
open PySem PySem.W PySem.Calls PyProof.Rows
theorem PySem.Challenge.cw_rateplan_k95_whole_rules_that_tell_plans_holds : PySem.Challenge.rw_rateplan_k95_whole_rules_that_tell_plans.Holds := by
  w_on; o_law
  refine HandSHeadRun.head_any (r := OpenLaw.row PySem.Challenge.rw_rateplan_k95_whole_rules_that_tell_plans) (q := RP.qv) (H := RP.hk) (ob := RP.ob) (M := 8000) (loose := RP.names) (d := HandSHeadRun.topDef (OpenLaw.row PySem.Challenge.rw_rateplan_k95_whole_rules_that_tell_plans).prog 78) (kwd := []) RP.ob_eq
    (by kernel_rfl) (fun s => by kernel_rfl) RP.run (by kernel_rfl) (by kernel_rfl) (by kernel_rfl) (by rfl) (by first | assumption | decide +kernel) (by decide +kernel) ⟨rfl, rfl, rfl, rfl, rfl, by decide +kernel⟩ ?hw ?hc
  case hw => w_witness2
  case hc =>
    refine Att.attach_callB (n := 63) rfl (by kernel_rfl) fun w s₀ s₁ mg mb fa o pm cd doc a vs ns G Y ho hd hcd hmg0 hobj hints hlen hbits hg => ?_
    obtain ⟨K, KX, c⟩ := Y
    have hmg : mg ("law" : PySem.Str) = some (.ref fa) := by
      have e : (HandSHeadRun.topDef (OpenLaw.row PySem.Challenge.rw_rateplan_k95_whole_rules_that_tell_plans).prog 78).name = ("law" : PySem.Str) := by kernel_rfl
      rw [← e]
      exact hmg0
    have T : RP.Txt K mg := ⟨⟨_, KX, G.T.g⟩, c.t.d, RP.exB_ok c.more⟩
    have ef := RP.law_fa (h := s₁.heap) T hmg
    subst ef
    have ht : RP.tdn ∈ RP.tf := List.mem_cons_self ..
    obtain ⟨fd, F⟩ := T.d_law
    exact RP.callG KX G.T.g G.T.b G.T.builtins G.T.nolimit hg (c.empty _ ht) (c.out _ ht) (c.hd _ ht) G.T.bmain hobj hints (Nat.le_trans hlen (by decide)) ⟨rfl, by decide, by decide⟩ (fun b0 h1 h2 tb => RP.c_law T tb F) (RP.b_law F)
      fun H hp hS => ⟨ns, hlen, .cons ⟨a, _, rfl, hS, RP.Dus.of_ints ns⟩ .nil, RP.tabs0 hp, fun H' => rfl⟩
