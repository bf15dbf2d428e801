import PyProof.Rows.All
import Wide.All
import OpenK.AllK
import Wide.FinOn
import HandS.ForMost
import HandS.Wide
import HandS.Walk
import HandS.IsInst
import HandS.Style
import HandS.Deep
import HandS.SetFor
import HandS.Strs
import HandS.EndBits
import HandS.ExcCtx
import HandS.ExcIs
import HandS.HotCalls
import KE.KDictCopyH
import HandS.Lambda
import HandS.EndTab
import HandS.SuiteRaise
import PySem.Challenge.RW_handsmeet_k08_whole_numbers
set_option Elab.async false
set_option linter.all false
set_option maxRecDepth 100000
set_option maxHeartbeats 4000000
/-! Mth1 -/
namespace HM
/-! ### fractions in lowest terms are Rats -/
theorem made_num {a b : Int} (hb : 0 < b) : (Rat.divInt a b).num = a / (Int.gcd a b : Int) := by
  rw [Rat.num_divInt, Int.sign_eq_one_of_pos hb, Int.one_mul, Int.gcd_comm]
theorem made_den {a b : Int} (hb : 0 < b) : ((Rat.divInt a b).den : Int) = b / (Int.gcd a b : Int) := by
  rw [Rat.den_divInt, if_neg (by omega), Int.gcd_comm, Int.natCast_ediv]
  congr 1
  omega
theorem plus_made (p q : Rat) : Rat.divInt (p.num * q.den + q.num * p.den) ((p.den : Int) * (q.den : Int)) = p + q := by
  rw [Rat.add_def', ← Rat.divInt_ofNat]
  congr 1
theorem times_made (p : Rat) (n : Int) : Rat.divInt (p.num * n) (p.den : Int) = p * n := by
  rw [Rat.mul_def', ← Rat.divInt_ofNat]
  congr 1
  rw [Rat.den_intCast, Nat.mul_one]
def fract (q : Rat) : Rat := q - (q.floor : Rat)
theorem gcd_emod (a b : Int) : Int.gcd (a % b) b = Int.gcd a b := by
  apply Nat.dvd_antisymm
  · apply Int.dvd_gcd
    · have h1 : ((Int.gcd (a % b) b : Nat) : Int) ∣ a % b := Int.gcd_dvd_left _ _
      have h2 : ((Int.gcd (a % b) b : Nat) : Int) ∣ b := Int.gcd_dvd_right _ _
      have e := Int.emod_add_mul_ediv a b
      have h3 := Int.dvd_add h1 (Int.dvd_mul_of_dvd_left (c := a / b) h2)
      rwa [e] at h3
    · exact Int.gcd_dvd_right _ _
  · apply Int.dvd_gcd
    · have h1 : ((Int.gcd a b : Nat) : Int) ∣ a := Int.gcd_dvd_left _ _
      have h2 : ((Int.gcd a b : Nat) : Int) ∣ b := Int.gcd_dvd_right _ _
      have e : a % b = a - b * (a / b) := by
        have := Int.emod_add_mul_ediv a b
        omega
      rw [e]
      exact Int.dvd_sub h1 (Int.dvd_mul_of_dvd_left h2)
    · exact Int.gcd_dvd_right _ _
theorem fract_made {a b : Int} (hb : 0 < b) : Rat.divInt (a % b) b = fract (Rat.divInt a b) := by
  have e : (Rat.divInt a b).floor = a / b := by
    rw [Rat.floor_def, made_num hb, made_den hb]
    have hg : (Int.gcd a b : Int) ∣ a := Int.gcd_dvd_left a b
    have hg' : (Int.gcd a b : Int) ∣ b := Int.gcd_dvd_right a b
    have h0 : (Int.gcd a b : Int) ≠ 0 := by
      have : Int.gcd a b ≠ 0 := by
        rw [Ne, Int.gcd_eq_zero_iff]
        omega
      omega
    have hgp : (0 : Int) < (Int.gcd a b : Int) := by omega
    obtain ⟨x, hx⟩ := hg
    obtain ⟨y, hy⟩ := hg'
    generalize (Int.gcd a b : Int) = g at *
    have h1 : a / g = x := by rw [hx]; exact Int.mul_ediv_cancel_left x h0
    have h2 : b / g = y := by rw [hy]; exact Int.mul_ediv_cancel_left y h0
    rw [h1, h2, hx, hy, Int.mul_ediv_mul_of_pos _ _ hgp]
  unfold fract
  rw [e]
  have hq : (a % b : Int) = a - b * (a / b) := by
    have := Int.emod_add_mul_ediv a b
    omega
  rw [hq, Rat.divInt_eq_div, Rat.divInt_eq_div]
  have hb' : (b : Rat) ≠ 0 := by
    rw [Ne, Rat.intCast_eq_zero_iff]
    omega
  rw [Rat.intCast_sub, Rat.intCast_mul]
  grind
theorem fract_num (q : Rat) : (fract q).num = q.num % q.den := by
  have hd : (0 : Int) < q.den := by exact_mod_cast q.den_pos
  have h := fract_made (a := q.num) (b := q.den) hd
  rw [Rat.num_divInt_den] at h
  rw [← h, made_num hd, gcd_emod]
  have : Int.gcd q.num q.den = 1 := q.reduced
  rw [this]
  simp
theorem fract_den (q : Rat) : (fract q).den = q.den := by
  have hd : (0 : Int) < q.den := by exact_mod_cast q.den_pos
  have h := fract_made (a := q.num) (b := q.den) hd
  rw [Rat.num_divInt_den] at h
  have h2 : ((fract q).den : Int) = q.den := by
    rw [← h, made_den hd, gcd_emod]
    have : Int.gcd q.num q.den = 1 := q.reduced
    rw [this]
    simp
  omega
theorem fract_nonneg (q : Rat) : 0 ≤ fract q := by
  have := Rat.floor_le q
  unfold fract
  grind
theorem fract_lt (q : Rat) : fract q < 1 := by
  have := Rat.lt_floor_add_one q
  rw [Rat.intCast_add] at this
  unfold fract
  have e : ((1 : Int) : Rat) = 1 := rfl
  grind
theorem fract_add_int (q : Rat) (n : Int) : fract (q + n) = fract q := by
  unfold fract
  rw [Rat.floor_add_intCast, Rat.intCast_add]
  grind
theorem fract_of {q : Rat} (h0 : 0 ≤ q) (h1 : q < 1) : fract q = q := by
  have : q.floor = 0 := by
    have a : (0 : Int) ≤ q.floor := Rat.le_floor_iff.mpr (by exact_mod_cast h0)
    have b : q.floor < 1 := Rat.floor_lt_iff.mpr (by exact_mod_cast h1)
    omega
  unfold fract
  rw [this]
  have e : ((0 : Int) : Rat) = 0 := rfl
  grind
/-- two numbers are at one place if they differ by a whole one -/
theorem fract_eq_iff {p q : Rat} : fract p = fract q ↔ ∃ n : Int, p - q = n := by
  constructor
  · intro h
    unfold fract at h
    refine ⟨p.floor - q.floor, ?_⟩
    rw [Rat.intCast_sub]
    grind
  · rintro ⟨n, h⟩
    have : p = q + n := by grind
    rw [this, fract_add_int]
/-- a whole number -/
def Wh (q : Rat) : Prop := ∃ n : Int, q = n
theorem wh_den {q : Rat} : Wh q ↔ q.den = 1 := by
  constructor
  · rintro ⟨n, rfl⟩
    rfl
  · intro h
    refine ⟨q.num, ?_⟩
    apply Rat.ext
    · rfl
    · rw [h]; rfl
theorem Wh.int (n : Int) : Wh n := ⟨n, rfl⟩
theorem Wh.add {p q : Rat} (hp : Wh p) (hq : Wh q) : Wh (p + q) := by
  obtain ⟨a, rfl⟩ := hp
  obtain ⟨b, rfl⟩ := hq
  exact ⟨a + b, by rw [Rat.intCast_add]⟩
theorem Wh.neg {p : Rat} (hp : Wh p) : Wh (-p) := by
  obtain ⟨a, rfl⟩ := hp
  exact ⟨-a, by rw [Rat.intCast_neg]⟩
theorem Wh.sub {p q : Rat} (hp : Wh p) (hq : Wh q) : Wh (p - q) := by
  obtain ⟨a, rfl⟩ := hp
  obtain ⟨b, rfl⟩ := hq
  exact ⟨a - b, by rw [Rat.intCast_sub]⟩
theorem Wh.mul {p q : Rat} (hp : Wh p) (hq : Wh q) : Wh (p * q) := by
  obtain ⟨a, rfl⟩ := hp
  obtain ⟨b, rfl⟩ := hq
  exact ⟨a * b, by rw [Rat.intCast_mul]⟩
theorem fract_eq_wh {p q : Rat} : fract p = fract q ↔ Wh (p - q) := fract_eq_iff

/-! ### sizes -/
def BtN (n : Nat) (i : Int) : Prop := i.natAbs < 2 ^ n
structure Bd (n : Nat) (q : Rat) : Prop where
  nu : q.num.natAbs < 2 ^ n
  de : q.den < 2 ^ n
theorem made_bd {a b : Int} {m n : Nat} (hb : 0 < b) (ha : a.natAbs < 2 ^ m) (hb' : b.natAbs < 2 ^ n) (hm : n ≤ m) : Bd m (Rat.divInt a b) := by
  constructor
  · rw [made_num hb]
    refine Nat.lt_of_le_of_lt ?_ ha
    have := Int.natAbs_ediv_le_natAbs a (Int.gcd a b : Int)
    exact this
  · have h := made_den (a := a) hb
    have h1 := Int.natAbs_ediv_le_natAbs b (Int.gcd a b : Int)
    rw [← h] at h1
    have h2 : (2 : Nat) ^ n ≤ 2 ^ m := Nat.pow_le_pow_right (by decide) hm
    omega
theorem Bd.mono {m n : Nat} {q : Rat} (h : Bd m q) (hmn : m ≤ n) : Bd n q :=
  have h2 : (2 : Nat) ^ m ≤ 2 ^ n := Nat.pow_le_pow_right (by decide) hmn
  ⟨Nat.lt_of_lt_of_le h.nu h2, Nat.lt_of_lt_of_le h.de h2⟩
theorem mul_lt_pow {a b m n : Nat} (ha : a < 2 ^ m) (hb : b < 2 ^ n) : a * b < 2 ^ (m + n) := by
  rw [Nat.pow_add]
  exact Nat.mul_lt_mul'' ha hb
theorem Bd.add {m n : Nat} {p q : Rat} (hp : Bd m p) (hq : Bd n q) : Bd (m + n + 1) (p + q) := by
  rw [← plus_made]
  have hd : (0 : Int) < (p.den : Int) * (q.den : Int) := by
    have := p.den_pos
    have := q.den_pos
    exact Int.mul_pos (by omega) (by omega)
  refine made_bd (n := m + n) hd ?_ ?_ (by omega)
  · have h1 : (p.num * (q.den : Int)).natAbs < 2 ^ (m + n) := by
      rw [Int.natAbs_mul]
      exact mul_lt_pow hp.nu hq.de
    have h2 : (q.num * (p.den : Int)).natAbs < 2 ^ (m + n) := by
      rw [Int.natAbs_mul, Nat.mul_comm]
      exact mul_lt_pow hp.de hq.nu
    rw [Nat.pow_succ]
    omega
  · rw [Int.natAbs_mul]
    exact mul_lt_pow hp.de hq.de
theorem Bd.mulI {m n : Nat} {p : Rat} {k : Int} (hp : Bd m p) (hk : k.natAbs < 2 ^ n) : Bd (m + n) (p * k) := by
  rw [← times_made]
  have hd : (0 : Int) < (p.den : Int) := by
    have := p.den_pos
    omega
  refine made_bd (n := m) hd ?_ ?_ (by omega)
  · rw [Int.natAbs_mul]
    exact mul_lt_pow hp.nu hk
  · exact hp.de
theorem Bd.neg {m : Nat} {p : Rat} (hp : Bd m p) : Bd m (-p) := ⟨by rw [Rat.neg_num, Int.natAbs_neg]; exact hp.nu, hp.de⟩
theorem Bd.sub {m n : Nat} {p q : Rat} (hp : Bd m p) (hq : Bd n q) : Bd (m + n + 1) (p - q) := by
  rw [Rat.sub_eq_add_neg]
  exact hp.add hq.neg
theorem Bd.fract {m : Nat} {p : Rat} (hp : Bd m p) : Bd m (fract p) := by
  have hd := p.den_pos
  constructor
  · rw [fract_num]
    have h1 := Int.emod_nonneg p.num (show (p.den : Int) ≠ 0 by omega)
    have h2 := Int.emod_lt_of_pos p.num (show (0 : Int) < p.den by omega)
    have := hp.de
    omega
  · rw [fract_den]
    exact hp.de
/-- a place by its hand and the time -/
def plc (h : Int × Rat) (t : Rat) : Rat := fract (h.2 + t * h.1)
end HM

/-! Lay1 -/
namespace HM
open PySem L2

/-! ### heaps: G what is pure, H all that stands -/
def Ex (H H' : Hp) : Prop := ∀ a o, H a = some o → H' a = some o
theorem Ex.refl (H : Hp) : Ex H H := fun _ _ h => h
theorem Ex.trans {H H1 H2 : Hp} (a : Ex H H1) (b : Ex H1 H2) : Ex H H2 := fun x o h => b x o (a x o h)
theorem Ex.free {H H' : Hp} (e : Ex H H') {a : Addr} (h : H' a = none) : H a = none := by
  cases q : H a with
  | none => rfl
  | some o => rw [e a o q] at h; cases h
theorem Ex.putR {H H' : Hp} {p : Addr} {o : HO} (e : Ex H H') (h : H p = none) : Ex H (upd H' p o) := fun a u q => by
  rw [upd_ne (ne_of_none q h)]; exact e a u q
theorem Ex.put2 {G H : Hp} {p : Addr} {o : HO} (e : Ex G H) : Ex (upd G p o) (upd H p o) := fun a u q => by
  by_cases h : a = p
  · subst h; rw [upd_same] at q ⊢; exact q
  · rw [upd_ne h] at q ⊢; exact e a u q
theorem Ex.putL {G H : Hp} {p : Addr} {o : HO} (e : Ex G H) (h : H p = some o) : Ex (upd G p o) H := fun a u q => by
  by_cases z : a = p
  · subst z; rw [upd_same] at q; rw [← q]; exact h
  · rw [upd_ne z] at q; exact e a u q
structure Gr (G H G' H' : Hp) : Prop where
  g : Ex G G'
  h : Ex H H'
  s : Ex G' H'
  n : ∀ a, H a ≠ none → G' a = G a
theorem Gr.refl {G H : Hp} (e : Ex G H) : Gr G H G H := ⟨.refl _, .refl _, e, fun _ _ => rfl⟩
theorem Ex.ne {H H' : Hp} (e : Ex H H') {a : Addr} (h : H a ≠ none) : H' a ≠ none := fun z => h (e.free z)
theorem Gr.trans {G H G1 H1 G2 H2 : Hp} (a : Gr G H G1 H1) (b : Gr G1 H1 G2 H2) : Gr G H G2 H2 :=
  ⟨a.g.trans b.g, a.h.trans b.h, b.s, fun c h => (b.n c (a.h.ne h)).trans (a.n c h)⟩
theorem Gr.new {G H : Hp} {p : Addr} {o : HO} (e : Ex G H) (hp : H p = none) : Gr G H (upd G p o) (upd H p o) :=
  ⟨(Ex.refl G).putR (e.free hp), (Ex.refl H).putR hp, e.put2, fun a h => upd_ne fun z => h (z ▸ hp)⟩
theorem Gr.own {G H : Hp} {p : Addr} {o : HO} (e : Ex G H) (hp : H p = none) : Gr G H G (upd H p o) :=
  ⟨.refl G, (Ex.refl H).putR hp, e.putR (e.free hp), fun _ _ => rfl⟩
/-- an owned object changes -/
theorem Gr.mut {G H G' H' : Hp} {p : Addr} {o : HO} (e : Gr G H G' H') (h1 : H p = none) (h2 : G' p = none) : Gr G H G' (upd H' p o) :=
  ⟨e.g, e.h.putR h1, e.s.putR h2, e.n⟩
/-- an owned object is owned no more -/
theorem Gr.frz {G H G' H' : Hp} {p : Addr} {o : HO} (e : Gr G H G' H') (h1 : H p = none) (h2 : G' p = none) (h3 : H' p = some o) : Gr G H (upd G' p o) H' :=
  ⟨e.g.putR (e.g.free h2), e.h, e.s.putL h3, fun a h => by rw [upd_ne (show a ≠ p from fun z => h (z ▸ h1))]; exact e.n a h⟩

/-! ### data -/
inductive D where
  | val (v : V)
  | lst (xs : List D)
  | fz (xs : List D)
  | tup (xs : List D)
  | ins (C : Addr) (fs : List (Str × D))
  | emp
abbrev I (i : Int) : D := .val (.int i)
abbrev B (b : Bool) : D := .val (.bl b)
abbrev dN : D := .val .non
mutual
inductive At (K : PySem.W.Frag) (G : Hp) : V → D → Prop
  | val (v : V) : At K G v (.val v)
  | lst {a : Addr} {xs : List V} {ds : List D} : G a = some (.lst xs) → Ats K G xs ds → At K G (.ref a) (.lst ds)
  | fz {a : Addr} {xs : List V} {ds : List D} : SqL K G a xs → Ats K G xs ds → At K G (.ref a) (.fz ds)
  | tup {a : Addr} {xs : List V} {ds : List D} : G a = some (.tup xs) → Ats K G xs ds → At K G (.ref a) (.tup ds)
  | ins {a C dx : Addr} {fs : List (Str × V)} {ds : List (Str × D)} : G a = some (.ins C dx fs) → AtF K G fs ds → At K G (.ref a) (.ins C ds)
  | emp {a : Addr} : G a = some (.dK []) → At K G (.ref a) .emp
inductive Ats (K : PySem.W.Frag) (G : Hp) : List V → List D → Prop
  | nil : Ats K G [] []
  | cons {v : V} {vs : List V} {d : D} {ds : List D} : At K G v d → Ats K G vs ds → Ats K G (v :: vs) (d :: ds)
inductive AtF (K : PySem.W.Frag) (G : Hp) : List (Str × V) → List (Str × D) → Prop
  | nil : AtF K G [] []
  | cons {x : Str} {v : V} {vs : List (Str × V)} {d : D} {ds : List (Str × D)} : At K G v d → AtF K G vs ds → AtF K G ((x, v) :: vs) ((x, d) :: ds)
end
section
variable {K : PySem.W.Frag} {G G' : Hp}
theorem Ex.seq {a : Addr} {xs : List V} (e : Ex G G') (h : SqL K G a xs) : SqL K G' a xs := by
  rcases h with (h | ⟨o, h⟩) | h
  · exact .inl (.inl (e _ _ h))
  · exact .inl (.inr ⟨o, e _ _ h⟩)
  · exact .inr h
theorem At.mono (e : Ex G G') {v : V} {d : D} (h : At K G v d) : At K G' v d :=
  At.rec (motive_1 := fun v d _ => At K G' v d) (motive_2 := fun vs ds _ => Ats K G' vs ds) (motive_3 := fun vs ds _ => AtF K G' vs ds)
    (fun v => .val v) (fun h _ ih => .lst (e _ _ h) ih) (fun h _ ih => .fz (e.seq h) ih) (fun h _ ih => .tup (e _ _ h) ih) (fun h _ ih => .ins (e _ _ h) ih) (fun h => .emp (e _ _ h))
    .nil (fun _ _ i1 i2 => .cons i1 i2) .nil (fun _ _ i1 i2 => .cons i1 i2) h
theorem Ats.mono (e : Ex G G') : ∀ {vs : List V} {ds : List D}, Ats K G vs ds → Ats K G' vs ds
  | _, _, .nil => .nil
  | _, _, .cons h t => .cons (h.mono e) (Ats.mono e t)
theorem AtF.mono (e : Ex G G') : ∀ {vs : List (Str × V)} {ds : List (Str × D)}, AtF K G vs ds → AtF K G' vs ds
  | _, _, .nil => .nil
  | _, _, .cons h t => .cons (h.mono e) (AtF.mono e t)
theorem Ats.len : ∀ {vs : List V} {ds : List D}, Ats K G vs ds → vs.length = ds.length
  | _, _, .nil => rfl
  | _, _, .cons _ t => by rw [List.length_cons, List.length_cons, Ats.len t]
theorem Ats.get : ∀ {vs : List V} {ds : List D} {i : Nat} {d : D}, Ats K G vs ds → ds[i]? = some d → ∃ v, vs[i]? = some v ∧ At K G v d
  | _, _, _, _, .nil, e => by simp at e
  | _, _, 0, _, .cons r _, e => by simp at e; subst e; exact ⟨_, rfl, r⟩
  | _, _, i + 1, d, .cons _ t, e => by
    obtain ⟨u, h1, h2⟩ := Ats.get (i := i) (d := d) t (by simpa using e)
    exact ⟨u, by simpa using h1, h2⟩
theorem Ats.get' : ∀ {vs : List V} {ds : List D} {i : Nat} {v : V}, Ats K G vs ds → vs[i]? = some v → ∃ d, ds[i]? = some d ∧ At K G v d
  | _, _, _, _, .nil, e => by simp at e
  | _, _, 0, _, .cons r _, e => by simp at e; subst e; exact ⟨_, rfl, r⟩
  | _, _, i + 1, d, .cons _ t, e => by
    obtain ⟨u, h1, h2⟩ := Ats.get' (i := i) (v := d) t (by simpa using e)
    exact ⟨u, by simpa using h1, h2⟩
theorem Ats.app : ∀ {vs ws : List V} {ds es : List D}, Ats K G vs ds → Ats K G ws es → Ats K G (vs ++ ws) (ds ++ es)
  | _, _, _, _, .nil, s => s
  | _, _, _, _, .cons r t, s => .cons r (Ats.app t s)
theorem Ats.one {v : V} {d : D} (h : At K G v d) : Ats K G [v] [d] := .cons h .nil
theorem Ats.take : ∀ {vs : List V} {ds : List D} (n : Nat), Ats K G vs ds → Ats K G (vs.take n) (ds.take n)
  | _, _, 0, _ => .nil
  | _, _, _ + 1, .nil => .nil
  | _, _, n + 1, .cons r t => .cons r (Ats.take n t)
theorem Ats.drop : ∀ {vs : List V} {ds : List D} (n : Nat), Ats K G vs ds → Ats K G (vs.drop n) (ds.drop n)
  | _, _, 0, r => r
  | _, _, _ + 1, .nil => .nil
  | _, _, n + 1, .cons _ t => Ats.drop n t
theorem Ats.rev {vs : List V} {ds : List D} (h : Ats K G vs ds) : Ats K G vs.reverse ds.reverse := by
  induction h using Ats.rec (motive_1 := fun _ _ _ => True) (motive_3 := fun _ _ _ => True) with
  | nil => exact .nil
  | cons r _ _ ih => rw [List.reverse_cons, List.reverse_cons]; exact ih.app (.one r)
  | _ => trivial
theorem Ats.rep {vs : List V} {ds : List D} (h : Ats K G vs ds) : ∀ k : Nat, Ats K G (List.replicate k vs).flatten (List.replicate k ds).flatten
  | 0 => .nil
  | k + 1 => by
    rw [List.replicate_succ, List.replicate_succ, List.flatten_cons, List.flatten_cons]
    exact h.app (Ats.rep h k)
theorem AtF.look {f : Str} : ∀ {vs : List (Str × V)} {ds : List (Str × D)} {d : D}, AtF K G vs ds → ds.lookup f = some d → ∃ v, vs.lookup f = some v ∧ At K G v d
  | _, _, _, .nil, e => by simp at e
  | _, _, d, .cons (x := x) r t, e => by
    rw [List.lookup_cons] at e ⊢
    cases h : (f == x) with
    | true =>
      rw [h] at e
      cases e
      exact ⟨_, rfl, r⟩
    | false =>
      rw [h] at e
      exact AtF.look t e
theorem AtF.none {f : Str} : ∀ {vs : List (Str × V)} {ds : List (Str × D)}, AtF K G vs ds → ds.lookup f = none → vs.lookup f = none
  | _, _, .nil, _ => rfl
  | _, _, .cons (x := x) r t, e => by
    rw [List.lookup_cons] at e ⊢
    cases h : (f == x) with
    | true => rw [h] at e; cases e
    | false => rw [h] at e; exact AtF.none t e
end

/-- lists of their own, at their addresses -/
inductive OwnL (K : PySem.W.Frag) (H0 G H : Hp) : List Addr → List (List D) → Prop
  | nil : OwnL K H0 G H [] []
  | cons {b : Addr} {bs : List Addr} {vs : List V} {xs : List D} {xss : List (List D)} : H0 b = none → G b = none → H b = some (.lst vs) → Ats K G vs xs → OwnL K H0 G H bs xss → OwnL K H0 G H (b :: bs) (xs :: xss)
theorem OwnL.gr {K : PySem.W.Frag} {H0 G H G' H' : Hp} (g : Gr G H G' H') : ∀ {bs : List Addr} {xss : List (List D)}, OwnL K H0 G H bs xss → OwnL K H0 G' H' bs xss
  | _, _, .nil => .nil
  | _, _, .cons h1 h2 h3 h4 t => .cons h1 ((g.n _ (by rw [h3]; simp)).trans h2) (g.h _ _ h3) (h4.mono g.g) (OwnL.gr g t)
theorem OwnL.back {K : PySem.W.Frag} {H0 H1 G H : Hp} (e : Ex H0 H1) : ∀ {bs : List Addr} {xss : List (List D)}, OwnL K H1 G H bs xss → OwnL K H0 G H bs xss
  | _, _, .nil => .nil
  | _, _, .cons h1 h2 h3 h4 t => .cons (e.free h1) h2 h3 h4 (OwnL.back e t)
theorem OwnL.len {K : PySem.W.Frag} {H0 G H : Hp} : ∀ {bs : List Addr} {xss : List (List D)}, OwnL K H0 G H bs xss → bs.length = xss.length
  | _, _, .nil => rfl
  | _, _, .cons _ _ _ _ t => by rw [List.length_cons, List.length_cons, OwnL.len t]
theorem OwnL.all {K : PySem.W.Frag} {H0 G H : Hp} : ∀ {bs : List Addr} {xss : List (List D)}, OwnL K H0 G H bs xss → ∀ b ∈ bs, H0 b = none ∧ G b = none ∧ H b ≠ none
  | _, _, .cons h1 h2 h3 _ t, b, hb => by
    rcases List.mem_cons.mp hb with e | hb
    · rw [e]; exact ⟨h1, h2, by rw [h3]; simp⟩
    · exact OwnL.all t b hb
/-- another heap, the same at these -/
theorem OwnL.keep {K : PySem.W.Frag} {H0 G H H' : Hp} : ∀ {bs : List Addr} {xss : List (List D)}, (∀ b ∈ bs, H' b = H b) → OwnL K H0 G H bs xss → OwnL K H0 G H' bs xss
  | _, _, _, .nil => .nil
  | _, _, k, .cons h1 h2 h3 h4 t => .cons h1 h2 (by rw [k _ List.mem_cons_self]; exact h3) h4 (OwnL.keep (fun b hb => k b (List.mem_cons_of_mem _ hb)) t)
/-- what a dict's entries are: tuples of ints, and lists at addresses -/
def rawK (kvs : List (List Int × List D)) (bs : List Addr) : List (List Key × V) := (kvs.zip bs).map fun x => (x.1.1.map Sum.inl, V.ref x.2)
/-! ### what a slot holds: pure data, or a list of its own -/
inductive S where
  | p (d : D)
  | o (xs : List D)
  | n (C : Addr) (f : Str) (xs : List D)
  | q (xss : List (List D))
  | g (kvs : List (List Int × List D))
abbrev Env := List (Option S)
def AtS (K : PySem.W.Frag) (H0 G H : Hp) (v : V) : S → Prop
  | .p d => At K G v d
  | .o xs => ∃ a vs, v = .ref a ∧ H0 a = none ∧ G a = none ∧ H a = some (.lst vs) ∧ Ats K G vs xs
  | .n C f xs => ∃ x dx q vs, v = .ref x ∧ H0 x = none ∧ G x = none ∧ H0 q = none ∧ G q = none ∧ x ≠ q ∧ H x = some (.ins C dx [(f, .ref q)]) ∧ H q = some (.lst vs) ∧ Ats K G vs xs
  | .q xss => ∃ a bs, v = .ref a ∧ H0 a = none ∧ G a = none ∧ H a = some (.lst (bs.map V.ref)) ∧ OwnL K H0 G H bs xss ∧ (a :: bs).Nodup
  | .g kvs => ∃ a bs, v = .ref a ∧ H0 a = none ∧ G a = none ∧ H a = some (.dT (rawK kvs bs)) ∧ OwnL K H0 G H bs (kvs.map Prod.snd) ∧ (a :: bs).Nodup
theorem AtS.gr {K : PySem.W.Frag} {H0 G H G' H' : Hp} {v : V} {s : S} (h : AtS K H0 G H v s) (g : Gr G H G' H') : AtS K H0 G' H' v s := by
  cases s with
  | p d => exact At.mono g.g h
  | o xs =>
    obtain ⟨a, vs, rfl, h0, hg, hh, ha⟩ := h
    exact ⟨a, vs, rfl, h0, (g.n a (by rw [hh]; simp)).trans hg, g.h _ _ hh, ha.mono g.g⟩
  | n C f xs =>
    obtain ⟨x, dx, q, vs, rfl, a1, a2, a3, a4, a5, a6, a7, a8⟩ := h
    exact ⟨x, dx, q, vs, rfl, a1, (g.n x (by rw [a6]; simp)).trans a2, a3, (g.n q (by rw [a7]; simp)).trans a4, a5, g.h _ _ a6, g.h _ _ a7, a8.mono g.g⟩
  | q xss =>
    obtain ⟨a, bs, rfl, h0, hg, hh, ho, hn⟩ := h
    exact ⟨a, bs, rfl, h0, (g.n a (by rw [hh]; simp)).trans hg, g.h _ _ hh, ho.gr g, hn⟩
  | g kvs =>
    obtain ⟨a, bs, rfl, h0, hg, hh, ho, hn⟩ := h
    exact ⟨a, bs, rfl, h0, (g.n a (by rw [hh]; simp)).trans hg, g.h _ _ hh, ho.gr g, hn⟩
theorem AtS.back {K : PySem.W.Frag} {H0 H1 G H : Hp} {v : V} {s : S} (h : AtS K H1 G H v s) (e : Ex H0 H1) : AtS K H0 G H v s := by
  cases s with
  | p d => exact h
  | o xs =>
    obtain ⟨a, vs, rfl, h0, r⟩ := h
    exact ⟨a, vs, rfl, e.free h0, r⟩
  | n C f xs =>
    obtain ⟨x, dx, q, vs, rfl, a1, a2, a3, r⟩ := h
    exact ⟨x, dx, q, vs, rfl, e.free a1, a2, e.free a3, r⟩
  | q xss =>
    obtain ⟨a, bs, rfl, h0, hg, hh, ho, hn⟩ := h
    exact ⟨a, bs, rfl, e.free h0, hg, hh, ho.back e, hn⟩
  | g kvs =>
    obtain ⟨a, bs, rfl, h0, hg, hh, ho, hn⟩ := h
    exact ⟨a, bs, rfl, e.free h0, hg, hh, ho.back e, hn⟩
structure En (K : PySem.W.Frag) (H0 G H : Hp) (σ : L2.St) (ds : Env) : Prop where
  h0 : Ex H0 H
  gh : Ex G H
  len : ds.length = σ.length
  get : ∀ (i : Nat) (s : S), ds[i]? = some (some s) → ∃ v, σ[i]? = some (some v) ∧ AtS K H0 G H v s
  ne : ∀ (i j : Nat) (xs ys : List D), ds[i]? = some (some (.o xs)) → ds[j]? = some (some (.o ys)) → σ[i]? = σ[j]? → i = j
section
variable {K : PySem.W.Frag} {H0 G H G' H' : Hp} {σ : L2.St} {ds : Env}
theorem En.gr (e : En K H0 G H σ ds) (g : Gr G H G' H') : En K H0 G' H' σ ds :=
  ⟨e.h0.trans g.h, g.s, e.len, fun i s h => let ⟨v, a, b⟩ := e.get i s h; ⟨v, a, b.gr g⟩, e.ne⟩
theorem En.own (e : En K H0 G H σ ds) {i : Nat} {xs : List D} (h : ds[i]? = some (some (.o xs))) : ∃ a vs, σ[i]? = some (some (.ref a)) ∧ H0 a = none ∧ G a = none ∧ H a = some (.lst vs) ∧ Ats K G vs xs := by
  obtain ⟨v, hv, a, vs, rfl, r⟩ := e.get i _ h
  exact ⟨a, vs, hv, r⟩
theorem En.pure (e : En K H0 G H σ ds) {i : Nat} {d : D} (h : ds[i]? = some (some (.p d))) : ∃ v, σ[i]? = some (some v) ∧ At K G v d := e.get i _ h
theorem get_set {α : Type} {l : List α} {i j : Nat} {x y : α} (h : (l.set i x)[j]? = some y) : (j = i ∧ y = x) ∨ (j ≠ i ∧ l[j]? = some y) := by
  by_cases e : i = j
  · subst e
    have hl : i < l.length := by
      have := (List.getElem?_eq_some_iff.mp h).1
      rwa [List.length_set] at this
    rw [List.getElem?_set_self hl] at h
    exact .inl ⟨rfl, (Option.some.inj h).symm⟩
  · rw [List.getElem?_set_ne e] at h
    exact .inr ⟨fun z => e z.symm, h⟩
theorem En.set (e : En K H0 G H σ ds) (i : Nat) {v : V} {s : S} (h : AtS K H0 G H v s) (hn : ∀ xs, s = .o xs → ∀ (j : Nat) (ys : List D), j ≠ i → ds[j]? = some (some (.o ys)) → σ[j]? ≠ some (some v)) : En K H0 G H (σ.set i (some v)) (ds.set i (some s)) := by
  refine ⟨e.h0, e.gh, by rw [List.length_set, List.length_set]; exact e.len, fun j s' hj => ?_, fun j k xs ys hj hk z => ?_⟩
  · rcases get_set hj with ⟨rfl, q⟩ | ⟨hne, q⟩
    · cases q
      have hl : j < σ.length := by
        have := (List.getElem?_eq_some_iff.mp hj).1
        rw [List.length_set, e.len] at this
        exact this
      exact ⟨v, List.getElem?_set_self hl, h⟩
    · obtain ⟨u, a, b⟩ := e.get j s' q
      exact ⟨u, by rw [List.getElem?_set_ne (Ne.symm hne)]; exact a, b⟩
  · rcases get_set hj with ⟨rfl, q⟩ | ⟨hne, q⟩
    · rcases get_set hk with ⟨rfl, q'⟩ | ⟨hne', q'⟩
      · rfl
      · cases q
        have hl : j < σ.length := by
          have := (List.getElem?_eq_some_iff.mp hj).1
          rw [List.length_set, e.len] at this
          exact this
        rw [List.getElem?_set_self hl, List.getElem?_set_ne (Ne.symm hne')] at z
        exact absurd z.symm (hn xs rfl k ys hne' q')
    · rcases get_set hk with ⟨rfl, q'⟩ | ⟨hne', q'⟩
      · cases q'
        have hl : k < σ.length := by
          have := (List.getElem?_eq_some_iff.mp hk).1
          rw [List.length_set, e.len] at this
          exact this
        rw [List.getElem?_set_self hl, List.getElem?_set_ne (Ne.symm hne)] at z
        exact absurd z (hn ys rfl j xs hne q)
      · rw [List.getElem?_set_ne (Ne.symm hne), List.getElem?_set_ne (Ne.symm hne')] at z
        exact e.ne j k xs ys q q' z
theorem En.setP (e : En K H0 G H σ ds) (i : Nat) {v : V} {d : D} (h : At K G v d) : En K H0 G H (σ.set i (some v)) (ds.set i (some (.p d))) :=
  e.set i (s := .p d) h fun _ z => nomatch z
theorem En.setN (e : En K H0 G H σ ds) (i : Nat) : En K H0 G H (σ.set i none) (ds.set i none) := by
  refine ⟨e.h0, e.gh, by rw [List.length_set, List.length_set]; exact e.len, fun j s' hj => ?_, fun j k xs ys hj hk z => ?_⟩
  · rcases get_set hj with ⟨rfl, q⟩ | ⟨hne, q⟩
    · cases q
    · obtain ⟨u, a, b⟩ := e.get j s' q
      exact ⟨u, by rw [List.getElem?_set_ne (Ne.symm hne)]; exact a, b⟩
  · rcases get_set hj with ⟨rfl, q⟩ | ⟨hne, q⟩
    · cases q
    · rcases get_set hk with ⟨rfl, q'⟩ | ⟨hne', q'⟩
      · cases q'
      · rw [List.getElem?_set_ne (Ne.symm hne), List.getElem?_set_ne (Ne.symm hne')] at z
        exact e.ne j k xs ys q q' z
/-- a slot is forgotten -/
theorem En.drop (e : En K H0 G H σ ds) {ds' : Env} (hl : ds'.length = ds.length) (h : ∀ (i : Nat) (s : S), ds'[i]? = some (some s) → ds[i]? = some (some s)) : En K H0 G H σ ds' :=
  ⟨e.h0, e.gh, hl.trans e.len, fun i s q => e.get i s (h i s q), fun i j xs ys q q' => e.ne i j xs ys (h i _ q) (h j _ q')⟩
end
def wipeS (ds : Env) : List Nat → Env
  | [] => ds
  | v :: vs => (wipeS ds vs).set v none
theorem En.wipe {K : PySem.W.Frag} {H0 G H : Hp} {σ : L2.St} {ds : Env} (e : En K H0 G H σ ds) : ∀ vs : List Nat, En K H0 G H (L2.wipe σ vs) (wipeS ds vs)
  | [] => e
  | v :: vs => (En.wipe e vs).setN v
theorem wipe_set {σ : L2.St} {j : Nat} {x : Option V} : ∀ {vs : List Nat}, j ∈ vs → L2.wipe (σ.set j x) vs = L2.wipe σ vs
  | v :: vs, h => by
    show (L2.wipe (σ.set j x) vs).set v none = (L2.wipe σ vs).set v none
    by_cases hj : j ∈ vs
    · rw [wipe_set hj]
    · have e : v = j := by
        rcases List.mem_cons.mp h with z | z
        · exact z.symm
        · exact absurd z hj
      subst e
      have w : ∀ (vs : List Nat), v ∉ vs → L2.wipe (σ.set v x) vs = (L2.wipe σ vs).set v x := by
        intro vs
        induction vs with
        | nil => intro _; rfl
        | cons u us ih =>
          intro hu
          show (L2.wipe (σ.set v x) us).set u none = ((L2.wipe σ us).set u none).set v x
          rw [ih fun z => hu (List.mem_cons_of_mem _ z), List.set_comm _ _ fun z => hu (by rw [z]; exact List.mem_cons_self)]
      rw [w vs hj, List.set_set]
theorem wipe_wipe {σ : L2.St} : ∀ {vs us : List Nat}, (∀ v ∈ vs, v ∈ us) → L2.wipe (L2.wipe σ vs) us = L2.wipe σ us
  | [], _, _ => rfl
  | v :: vs, us, h => by
    show L2.wipe ((L2.wipe σ vs).set v none) us = L2.wipe σ us
    rw [wipe_set (h v List.mem_cons_self), wipe_wipe fun u hu => h u (List.mem_cons_of_mem _ hu)]
end HM

/-! Lay2 -/
namespace HM
open PySem L2

/-! ### what a reading evaluates to -/
def EvS (K : PySem.W.Frag) (te : TE) (ds : Env) (s : S) : Prop := ∀ (σ : L2.St) (H0 G H : Hp) (Q : VK), En K H0 G H σ ds → (∀ v G' H', Gr G H G' H' → AtS K H G' H' v s → Q v H') → te σ H Q
def EvT (K : PySem.W.Frag) (tt : TT) (ds : Env) (b : Bool) : Prop := ∀ (σ : L2.St) (H0 G H : Hp) (Q : Bool → Hp → Prop), En K H0 G H σ ds → (∀ G' H', Gr G H G' H' → Q b H') → tt σ H Q
def EvA (K : PySem.W.Frag) (ta : TA) (ds : Env) (as : List D) : Prop := ∀ (σ : L2.St) (H0 G H : Hp) (Q : List V → Hp → Prop), En K H0 G H σ ds → (∀ vs G' H', Gr G H G' H' → Ats K G' vs as → Q vs H') → ta σ H Q
def EvO (K : PySem.W.Frag) (to : TO) (ds : Env) (o : Option Int) : Prop := ∀ (σ : L2.St) (H0 G H : Hp) (Q : Option Int → Hp → Prop), En K H0 G H σ ds → (∀ G' H', Gr G H G' H' → Q o H') → to σ H Q
def Hyp (p : Prop) : Prop := p
theorem hLen {n m : Nat} (h : Nat.ble n m = true) : Hyp (n ≤ m) := Nat.le_of_ble_eq_true h
/-- an operation on values, a call on values -/
def RD (K : PySem.W.Frag) (r : R2) (a b : D) (s : S) : Prop := ∀ (G H : Hp) (x y : V) (Q : VK), Ex G H → At K G x a → At K G y b → (∀ v G' H', Gr G H G' H' → AtS K H G' H' v s → Q v H') → r x y H Q
def RU (K : PySem.W.Frag) (r : V → Hp → VK → Prop) (a : D) (s : S) : Prop := ∀ (G H : Hp) (x : V) (Q : VK), Ex G H → At K G x a → (∀ v G' H', Gr G H G' H' → AtS K H G' H' v s → Q v H') → r x H Q
def RC (K : PySem.W.Frag) (r : List V → Hp → VK → Prop) (as : List D) (s : S) : Prop := ∀ (G H : Hp) (vs : List V) (Q : VK), Ex G H → Ats K G vs as → (∀ v G' H', Gr G H G' H' → AtS K H G' H' v s → Q v H') → r vs H Q
/-- a def's promise: from the arguments' data to the answer -/
def spS (K : PySem.W.Frag) (P : List D → S → Prop) : Sp := fun vs H Q _ => ∃ G ds s, Ex G H ∧ Ats K G vs ds ∧ P ds s ∧ ∀ v G' H', Gr G H G' H' → AtS K H G' H' v s → Q v H'

section
variable {K : PySem.W.Frag} {ds : Env} {ta tb te tc : TE} {t u : TT} {a b d : D} {s : S} {r r' : R2}
theorem EvS.pure {xs : List D} (h : EvS K te ds (.o xs)) : EvS K te ds (.p (.lst xs)) := fun σ H0 G H Q e q =>
  h σ H0 G H Q e fun v G' H' g ⟨p, vs, ev, h0, hg, hh, ha⟩ => by
    subst ev
    exact q _ (upd G' p (.lst vs)) H' (g.frz h0 hg hh) (.lst upd_same (ha.mono ((Ex.refl G').putR hg)))
theorem frzN {C : Addr} {f : Str} {xs : List D} {H G G' H' : Hp} {v : V} (g : Gr G H G' H') (h : AtS K H G' H' v (.n C f xs)) : ∃ G2, Gr G H G2 H' ∧ Ex G' G2 ∧ At K G2 v (.ins C [(f, .lst xs)]) := by
  obtain ⟨x, dx, q, vs, rfl, a1, a2, a3, a4, a5, a6, a7, a8⟩ := h
  have g1 := g.frz a3 a4 a7
  have e1 : Ex G' (upd G' q (.lst vs)) := (Ex.refl G').putR a4
  have a2' : (upd G' q (.lst vs)) x = none := by rw [upd_ne a5]; exact a2
  have g2 := g1.frz a1 a2' a6
  have e2 : Ex (upd G' q (.lst vs)) (upd (upd G' q (.lst vs)) x (.ins C dx [(f, .ref q)])) := (Ex.refl _).putR a2'
  exact ⟨_, g2, e1.trans e2, .ins upd_same (.cons (.lst (e2 _ _ upd_same) ((a8.mono e1).mono e2)) .nil)⟩
theorem EvS.pureN {C : Addr} {f : Str} {xs : List D} (h : EvS K te ds (.n C f xs)) : EvS K te ds (.p (.ins C [(f, .lst xs)])) := fun σ H0 G H Q e q =>
  h σ H0 G H Q e fun v G' H' g hn => let ⟨G2, g2, _, ha⟩ := frzN g hn; q v G2 H' g2 ha
theorem ev_var {i : Nat} (h : ds[i]? = some (some (.p d))) : EvS K (tVar i) ds (.p d) := fun σ H0 G H Q e q =>
  let ⟨v, hv, hd⟩ := e.pure h
  ⟨v, hv, q v G H (.refl e.gh) hd⟩
theorem ev_c {v : V} : EvS K (tC v) ds (.p (.val v)) := fun σ H0 G H Q e q => q v G H (.refl e.gh) (.val v)
theorem ev_op (ha : EvS K ta ds (.p a)) (hb : EvS K tb ds (.p b)) (hr : RD K r a b s) : EvS K (tOp r ta tb) ds s := fun σ H0 G H Q e q =>
  ha σ H0 G H _ e fun x G1 H1 g1 hx => hb σ H0 G1 H1 _ (e.gr g1) fun y G2 H2 g2 hy => hr G2 H2 x y Q g2.s (hx.mono g2.g) hy fun v G3 H3 g3 hv =>
    q v G3 H3 ((g1.trans g2).trans g3) (hv.back (g1.h.trans g2.h))
theorem ev_un {r : V → Hp → VK → Prop} (ha : EvS K ta ds (.p a)) (hr : RU K r a s) : EvS K (tUn r ta) ds s := fun σ H0 G H Q e q =>
  ha σ H0 G H _ e fun x G1 H1 g1 hx => hr G1 H1 x Q g1.s hx fun v G3 H3 g3 hv => q v G3 H3 (g1.trans g3) (hv.back g1.h)
theorem ea_nil : EvA K tNil ds [] := fun σ H0 G H Q e q => q [] G H (.refl e.gh) .nil
theorem ea_cons {tr : TA} {as : List D} (ha : EvS K ta ds (.p a)) (hr : EvA K tr ds as) : EvA K (tCons ta tr) ds (a :: as) := fun σ H0 G H Q e q =>
  ha σ H0 G H _ e fun x G1 H1 g1 hx => hr σ H0 G1 H1 _ (e.gr g1) fun vs G2 H2 g2 hv => q _ G2 H2 (g1.trans g2) (.cons (hx.mono g2.g) hv)
theorem ev_tup {ta : TA} {as : List D} (h : EvA K ta ds as) (hl : Hyp (as.length ≤ 1000)) : EvS K (tTup ta) ds (.p (.tup as)) := fun σ H0 G H Q e q =>
  h σ H0 G H _ e fun vs G1 H1 g1 hv => ⟨by rw [hv.len]; exact Nat.le_trans hl (by decide), fun p hp => q _ _ _ (g1.trans (.new g1.s hp)) (.tup upd_same (hv.mono ((Ex.refl G1).putR (g1.s.free hp))))⟩
theorem ev_lst {ta : TA} {as : List D} (h : EvA K ta ds as) (hl : Hyp (as.length ≤ 1000)) : EvS K (tLst ta) ds (.o as) := fun σ H0 G H Q e q =>
  h σ H0 G H _ e fun vs G1 H1 g1 hv => ⟨by rw [hv.len]; exact Nat.le_trans hl (by decide), fun p hp => q _ G1 _ (g1.trans (.own g1.s hp)) ⟨p, vs, rfl, g1.h.free hp, g1.s.free hp, upd_same, hv⟩⟩
theorem ev_call {P : List D → S → Prop} {E : XK} {ta : TA} {as : List D} (h : EvA K ta ds as) (hp : P as s) : EvS K (tCall (spS K P) [] E ta) ds s := fun σ H0 G H Q e q =>
  h σ H0 G H _ e fun vs G1 H1 g1 hv => ⟨G1, as, s, g1.s, by rw [List.append_nil]; exact hv, hp, fun v G2 H2 g2 h2 => q v G2 H2 (g1.trans g2) (h2.back g1.h)⟩
theorem ev_cb {r : List V → Hp → VK → Prop} {ta : TA} {as : List D} (h : EvA K ta ds as) (hr : RC K r as s) : EvS K (tCB r ta) ds s := fun σ H0 G H Q e q =>
  h σ H0 G H _ e fun vs G1 H1 g1 hv => hr G1 H1 vs Q g1.s hv fun v G2 H2 g2 h2 => q v G2 H2 (g1.trans g2) (h2.back g1.h)
theorem ev_fld {C : Addr} {fs : List (Str × D)} {f : Str} (h : EvS K te ds (.p (.ins C fs))) (c : Cls K C) (n : NoAttr K C f) (hf : fs.lookup f = some d) : EvS K (tFld K te f) ds (.p d) := fun σ H0 G H Q e q =>
  h σ H0 G H _ e fun v G1 H1 g1 hv => by
    cases hv with
    | ins h1 h2 =>
      obtain ⟨v, l, hd⟩ := h2.look hf
      exact ⟨_, C, _, _, v, rfl, g1.s _ _ h1, c, n, l, q v G1 H1 g1 hd⟩
theorem ev_meth {C : Addr} {fs : List (Str × D)} {m : Str} {P : List D → S → Prop} {E : XK} {ta : TA} {as : List D} (ho : EvS K te ds (.p (.ins C fs))) (hf : fs.lookup m = none) (h : EvA K ta ds as) (hp : P (.ins C fs :: as) s) :
    EvS K (tMeth C m (spS K P) [] E te ta) ds s := fun σ H0 G H Q e q =>
  ho σ H0 G H _ e fun x G1 H1 g1 hx => by
    have hx' := hx
    cases hx with
    | ins h1 h2 =>
      refine ⟨_, _, _, rfl, g1.s _ _ h1, h2.none hf, h σ H0 G1 H1 _ (e.gr g1) fun vs G2 H2 g2 hv => ?_⟩
      refine ⟨G2, _, s, g2.s, ?_, hp, fun v G3 H3 g3 h3 => q v G3 H3 ((g1.trans g2).trans g3) (h3.back (g1.trans g2).h)⟩
      rw [List.append_nil]
      exact .cons (At.mono g2.g hx') hv

/-! ### tests -/
theorem et_test {b : Bool} (h : EvS K te ds (.p (B b))) : EvT K (tTest te) ds b := fun σ H0 G H Q e q =>
  h σ H0 G H _ e fun v G' H' g hv => by cases hv; exact ⟨b, rfl, q G' H' g⟩
theorem et_B {b : Bool} (h : EvS K te ds (.p (B b))) : EvT K (tB te) ds b := fun σ H0 G H Q e q =>
  h σ H0 G H _ e fun v G' H' g hv => by cases hv; exact ⟨b, rfl, q G' H' g⟩
theorem et_and {a b : Bool} (h1 : EvT K t ds a) (h2 : a = true → EvT K u ds b) : EvT K (tAnd t u) ds (a && b) := fun σ H0 G H Q e q => h1 σ H0 G H _ e fun G1 H1 g1 => by
  cases a with
  | true => exact h2 rfl σ H0 G1 H1 Q (e.gr g1) fun G2 H2 g2 => q G2 H2 (g1.trans g2)
  | false => exact q G1 H1 g1
theorem et_or {a b : Bool} (h1 : EvT K t ds a) (h2 : a = false → EvT K u ds b) : EvT K (tOr t u) ds (a || b) := fun σ H0 G H Q e q => h1 σ H0 G H _ e fun G1 H1 g1 => by
  cases a with
  | false => exact h2 rfl σ H0 G1 H1 Q (e.gr g1) fun G2 H2 g2 => q G2 H2 (g1.trans g2)
  | true => exact q G1 H1 g1
theorem et_not {a : Bool} (h1 : EvT K t ds a) : EvT K (tNot t) ds (!a) := fun σ H0 G H Q e q => h1 σ H0 G H _ e q
theorem et_is {a b : Bool} (h : EvT K t ds a) (e : a = b) : EvT K t ds b := e ▸ h
theorem ev_is {s' : S} (h : EvS K te ds s) (e : s = s') : EvS K te ds s' := e ▸ h
theorem ev_andV {a : Bool} (h1 : EvS K ta ds (.p (B a))) (h2 : a = true → EvS K tb ds s) (h3 : a = false → s = .p (B false)) : EvS K (tAndV ta tb) ds s := fun σ H0 G H Q e q => h1 σ H0 G H _ e fun x G1 H1 g1 hx => by
  cases hx
  refine ⟨a, rfl, ?_⟩
  cases a with
  | true => exact h2 rfl σ H0 G1 H1 Q (e.gr g1) fun v G2 H2 g2 hv => q v G2 H2 (g1.trans g2) (hv.back g1.h)
  | false => exact q _ G1 H1 g1 (by rw [h3 rfl]; exact .val _)
theorem ev_orV {a : Bool} (h1 : EvS K ta ds (.p (B a))) (h2 : a = false → EvS K tb ds s) (h3 : a = true → s = .p (B true)) : EvS K (tOrV ta tb) ds s := fun σ H0 G H Q e q => h1 σ H0 G H _ e fun x G1 H1 g1 hx => by
  cases hx
  refine ⟨a, rfl, ?_⟩
  cases a with
  | false => exact h2 rfl σ H0 G1 H1 Q (e.gr g1) fun v G2 H2 g2 hv => q v G2 H2 (g1.trans g2) (hv.back g1.h)
  | true => exact q _ G1 H1 g1 (by rw [h3 rfl]; exact .val _)
theorem ev_andB {a b : Bool} (h1 : EvS K ta ds (.p (B a))) (h2 : a = true → EvS K tb ds (.p (B b))) : EvS K (tAndV ta tb) ds (.p (B (a && b))) :=
  ev_andV h1 (fun e => by rw [e]; exact h2 e) fun e => by rw [e]; rfl
theorem ev_orB {a b : Bool} (h1 : EvS K ta ds (.p (B a))) (h2 : a = false → EvS K tb ds (.p (B b))) : EvS K (tOrV ta tb) ds (.p (B (a || b))) :=
  ev_orV h1 (fun e => by rw [e]; exact h2 e) fun e => by rw [e]; rfl
theorem ev_notB {a : Bool} (h1 : EvS K ta ds (.p (B a))) : EvS K (tNotV ta) ds (.p (B (!a))) := fun σ H0 G H Q e q => h1 σ H0 G H _ e fun x G1 H1 g1 hx => by
  cases hx
  exact ⟨a, rfl, q _ G1 H1 g1 (.val _)⟩
theorem ev_if {b : Bool} (h : EvT K t ds b) (h1 : b = true → EvS K ta ds s) (h2 : b = false → EvS K tb ds s) : EvS K (tIf t ta tb) ds s := fun σ H0 G H Q e q => h σ H0 G H _ e fun G1 H1 g1 => by
  cases b with
  | true => exact h1 rfl σ H0 G1 H1 Q (e.gr g1) fun v G2 H2 g2 hv => q v G2 H2 (g1.trans g2) (hv.back g1.h)
  | false => exact h2 rfl σ H0 G1 H1 Q (e.gr g1) fun v G2 H2 g2 hv => q v G2 H2 (g1.trans g2) (hv.back g1.h)
/-- a op b op c of ints -/
theorem ev_chain {C C' : Int → Int → Bool} {i j k : Int} (ha : EvS K ta ds (.p (I i))) (hb : EvS K tb ds (.p (I j))) (hc : C i j = true → EvS K tc ds (.p (I k))) :
    EvS K (tChain (rI0 fun i j => .bl (C i j)) (rI0 fun i j => .bl (C' i j)) ta tb tc) ds (.p (B (C i j && C' j k))) := fun σ H0 G H Q e q =>
  ha σ H0 G H _ e fun x G1 H1 g1 hx => hb σ H0 G1 H1 _ (e.gr g1) fun y G2 H2 g2 hy => by
    cases hx
    cases hy
    refine ⟨i, j, rfl, rfl, C i j, rfl, ?_⟩
    cases hh : C i j with
    | true =>
      refine hc hh σ H0 G2 H2 _ ((e.gr g1).gr g2) fun z G3 H3 g3 hz => ?_
      cases hz
      refine ⟨j, k, rfl, rfl, q _ G3 H3 ((g1.trans g2).trans g3) ?_⟩
      rw [hh]
      exact .val _
    | false => exact q _ G2 H2 (g1.trans g2) (by rw [hh]; exact .val _)

/-! ### values -/
theorem rd_val {x y z : V} (h : ∀ (H : Hp) (Q : VK), Q z H → r x y H Q) : RD K r (.val x) (.val y) (.p (.val z)) := fun G H x' y' Q e hx hy q => by
  cases hx
  cases hy
  exact h H Q (q z G H (.refl e) (.val z))
theorem rd_I0 {g : Int → Int → V} {i j : Int} : RD K (rI0 g) (I i) (I j) (.p (.val (g i j))) := rd_val fun H Q q => ⟨i, j, rfl, rfl, q⟩
theorem rd_I {C : Int → Int → Prop} {g : Int → Int → V} {i j : Int} (h : C i j) : RD K (rI C g) (I i) (I j) (.p (.val (g i j))) := rd_val fun H Q q => ⟨i, j, rfl, rfl, h, q⟩
theorem rd_eqI {i j : Int} : RD K rEq (I i) (I j) (.p (B (decide (i = j)))) := rd_val fun H Q q => ⟨rfl, by rw [dec_int, Bool.beq_eq_decide_eq]; exact q⟩
theorem rd_neI {i j : Int} : RD K rNe (I i) (I j) (.p (B (!decide (i = j)))) := rd_val fun H Q q => ⟨rfl, by rw [dec_int, Bool.beq_eq_decide_eq]; exact q⟩
theorem rd_eqB {i j : Bool} : RD K rEq (B i) (B j) (.p (B (decide (i = j)))) := rd_val fun H Q q => ⟨rfl, by rw [dec_bl, Bool.beq_eq_decide_eq]; exact q⟩
theorem rd_neB {i j : Bool} : RD K rNe (B i) (B j) (.p (B (!decide (i = j)))) := rd_val fun H Q q => ⟨rfl, by rw [dec_bl, Bool.beq_eq_decide_eq]; exact q⟩
theorem rd_isB {i j : Bool} : RD K rIsB (B i) (B j) (.p (B (decide (i = j)))) := rd_val fun H Q q => ⟨i, j, rfl, rfl, q⟩
theorem rd_notB {i j : Bool} : RD K rNotB (B i) (B j) (.p (B (!decide (i = j)))) := rd_val fun H Q q => ⟨i, j, rfl, rfl, q⟩
theorem ru_neg {i : Int} : RU K (rU fun i => .int (-i)) (I i) (.p (I (-i))) := fun G H x Q e hx q => by
  cases hx
  exact ⟨i, rfl, q _ G H (.refl e) (.val _)⟩
theorem atI_ats {G : Hp} {vs : List V} {xs : List D} {i : Int} (h : Ats K G vs xs) (ha : atI xs i = some d) : ∃ v, atI vs i = some v ∧ At K G v d := by
  unfold atI at ha ⊢
  rw [h.len]
  cases q : ixN xs.length i with
  | none => rw [q] at ha; cases ha
  | some j =>
    rw [q] at ha
    exact h.get ha
theorem rd_ixL {xs : List D} {i : Int} (h : atI xs i = some d) : RD K (rIxL K) (.lst xs) (I i) (.p d) := fun G H x y Q e hx hy q => by
  cases hy
  cases hx with
  | lst h1 h2 =>
    obtain ⟨v, h3, h4⟩ := atI_ats h2 h
    exact ⟨_, _, i, v, rfl, rfl, SqL.of (e _ _ h1), h3, q v G H (.refl e) h4⟩
theorem rd_ixF {xs : List D} {i : Int} (h : atI xs i = some d) : RD K (rIxL K) (.fz xs) (I i) (.p d) := fun G H x y Q e hx hy q => by
  cases hy
  cases hx with
  | fz h1 h2 =>
    obtain ⟨v, h3, h4⟩ := atI_ats h2 h
    exact ⟨_, _, i, v, rfl, rfl, e.seq h1, h3, q v G H (.refl e) h4⟩
theorem rd_ixT {xs : List D} {i : Int} (h : atI xs i = some d) : RD K (rIxT K) (.tup xs) (I i) (.p d) := fun G H x y Q e hx hy q => by
  cases hy
  cases hx with
  | tup h1 h2 =>
    obtain ⟨v, h3, h4⟩ := atI_ats h2 h
    exact ⟨_, _, i, v, rfl, rfl, SqT.of (e _ _ h1), h3, q v G H (.refl e) h4⟩
theorem rd_cat {xs ys : List D} (hl : xs.length + ys.length ≤ 1000) : RD K rCat (.lst xs) (.lst ys) (.o (xs ++ ys)) := fun G H x y Q e hx hy q => by
  cases hx with
  | lst h1 h2 =>
    cases hy with
    | lst h3 h4 =>
      refine ⟨_, _, _, _, rfl, rfl, e _ _ h1, e _ _ h3, by rw [h2.len, h4.len]; exact Nat.le_trans hl (by decide), fun p hp => q _ G _ (.own e hp) ⟨p, _, rfl, hp, e.free hp, upd_same, h2.app h4⟩⟩
theorem rd_rep {xs : List D} {k : Int} (h1 : 0 ≤ k) (h2 : k ≤ 1000) (h3 : xs.length ≤ 1000) : RD K rRep (.lst xs) (I k) (.o (List.replicate k.toNat xs).flatten) := fun G H x y Q e hx hy q => by
  cases hy
  cases hx with
  | lst h4 h5 =>
    refine ⟨_, k, _, rfl, rfl, e _ _ h4, by omega, by omega, ?_, fun p hp => q _ G _ (.own e hp) ⟨p, _, rfl, hp, e.free hp, upd_same, h5.rep _⟩⟩
    rw [h5.len]
    have : xs.length * k.toNat ≤ 1000 * 1000 := Nat.mul_le_mul h3 (by omega)
    exact Nat.le_trans this (by decide)

/-! ### calls of built-ins -/
theorem rc_abs {i : Int} : RC K (fun xs H Q => ∃ i, xs = [.int i] ∧ Q (.int (if i < 0 then -i else i)) H) [I i] (.p (I (if i < 0 then -i else i))) := fun G H vs Q e hv q => by
  cases hv with
  | cons h t => cases h; cases t; exact ⟨i, rfl, q _ G H (.refl e) (.val _)⟩
theorem rc_max2 {i j : Int} : RC K (fun xs H Q => ∃ i j, xs = [.int i, .int j] ∧ Q (.int (if j > i then j else i)) H) [I i, I j] (.p (I (if j > i then j else i))) := fun G H vs Q e hv q => by
  cases hv with
  | cons h t => cases h; cases t with
    | cons h t => cases h; cases t; exact ⟨i, j, rfl, q _ G H (.refl e) (.val _)⟩
theorem rc_lenL {xs : List D} : RC K (fun vs H Q => ∃ p ys, vs = [.ref p] ∧ (SqL K H p ys ∨ SqT K H p ys) ∧ Q (.int ys.length) H) [.lst xs] (.p (I xs.length)) := fun G H vs Q e hv q => by
  cases hv with
  | cons h t => cases t; cases h with
    | lst h1 h2 => exact ⟨_, _, rfl, .inl (SqL.of (e _ _ h1)), by rw [h2.len]; exact q _ G H (.refl e) (.val _)⟩
theorem rc_lenF {xs : List D} : RC K (fun vs H Q => ∃ p ys, vs = [.ref p] ∧ (SqL K H p ys ∨ SqT K H p ys) ∧ Q (.int ys.length) H) [.fz xs] (.p (I xs.length)) := fun G H vs Q e hv q => by
  cases hv with
  | cons h t => cases t; cases h with
    | fz h1 h2 => exact ⟨_, _, rfl, .inl (e.seq h1), by rw [h2.len]; exact q _ G H (.refl e) (.val _)⟩
theorem rc_lenT {xs : List D} : RC K (fun vs H Q => ∃ p ys, vs = [.ref p] ∧ (SqL K H p ys ∨ SqT K H p ys) ∧ Q (.int ys.length) H) [.tup xs] (.p (I xs.length)) := fun G H vs Q e hv q => by
  cases hv with
  | cons h t => cases t; cases h with
    | tup h1 h2 => exact ⟨_, _, rfl, .inr (SqT.of (e _ _ h1)), by rw [h2.len]; exact q _ G H (.refl e) (.val _)⟩
theorem rc_list {xs : List D} : RC K (fun vs H Q => ∃ p ys, vs = [.ref p] ∧ (SqL K H p ys ∨ SqT K H p ys) ∧ ∀ l, H l = none → Q (.ref l) (upd H l (.lst ys))) [.lst xs] (.o xs) := fun G H vs Q e hv q => by
  cases hv with
  | cons h t => cases t; cases h with
    | lst h1 h2 => exact ⟨_, _, rfl, .inl (SqL.of (e _ _ h1)), fun l hl => q _ G _ (.own e hl) ⟨l, _, rfl, hl, e.free hl, upd_same, h2⟩⟩
theorem ats_ints : ∀ {ns : List Int} {G : Hp} {vs : List V}, Ats K G vs (ns.map I) → vs = ns.map V.int
  | [], _, _, .nil => rfl
  | n :: ns, _, _, .cons h t => by
    cases h
    rw [ats_ints t, List.map_cons]
theorem ats_bls : ∀ {ns : List Bool} {G : Hp} {vs : List V}, Ats K G vs (ns.map B) → vs = ns.map V.bl
  | [], _, _, .nil => rfl
  | n :: ns, _, _, .cons h t => by
    cases h
    rw [ats_bls t, List.map_cons]
theorem ints_ats {G : Hp} : ∀ ns : List Int, Ats K G (ns.map V.int) (ns.map I)
  | [] => .nil
  | n :: ns => .cons (.val _) (ints_ats ns)
theorem rc_sum {ns : List Int} : RC K (rSum K) [.lst (ns.map I)] (.p (I ns.sum)) := fun G H vs Q e hv q => by
  cases hv with
  | cons h t => cases t; cases h with
    | lst h1 h2 => cases ats_ints h2; exact ⟨_, ns, rfl, SqL.of (e _ _ h1), q _ G H (.refl e) (.val _)⟩
theorem rc_all {bs : List Bool} : RC K (rAll K) [.lst (bs.map B)] (.p (B (bs.all id))) := fun G H vs Q e hv q => by
  cases hv with
  | cons h t => cases t; cases h with
    | lst h1 h2 => cases ats_bls h2; exact ⟨_, bs, rfl, SqL.of (e _ _ h1), q _ G H (.refl e) (.val _)⟩
theorem rc_any {bs : List Bool} : RC K (rAny K) [.lst (bs.map B)] (.p (B (bs.any id))) := fun G H vs Q e hv q => by
  cases hv with
  | cons h t => cases t; cases h with
    | lst h1 h2 => cases ats_bls h2; exact ⟨_, bs, rfl, SqL.of (e _ _ h1), q _ G H (.refl e) (.val _)⟩

/-! ### slices -/
theorem eo_none : EvO K tNoPart ds none := fun σ H0 G H Q e q => q G H (.refl e.gh)
theorem eo_some {i : Int} (h : EvS K te ds (.p (I i))) : EvO K (tPart te) ds (some i) := fun σ H0 G H Q e q => h σ H0 G H _ e fun v G1 H1 g1 hv => by
  cases hv
  exact ⟨i, rfl, q G1 H1 g1⟩
def cutD (xs : List D) (lo hi : Option Int) : List D := (xs.drop (HT.sIx xs.length 0 lo)).take (HT.sIx xs.length xs.length hi - HT.sIx xs.length 0 lo)
theorem Ats.cut {G : Hp} {vs : List V} {xs : List D} (h : Ats K G vs xs) (lo hi : Option Int) : Ats K G (cutV vs lo hi) (cutD xs lo hi) := by
  unfold cutV cutD
  rw [h.len]
  exact (h.drop _).take _
theorem ev_slL {xs : List D} {tl th : TO} {lo hi : Option Int} (h : EvS K te ds (.p (.lst xs))) (h1 : EvO K tl ds lo) (h2 : EvO K th ds hi) : EvS K (tSl (rSlL K) te tl th) ds (.o (cutD xs lo hi)) := fun σ H0 G H Q e q =>
  h σ H0 G H _ e fun x G1 H1 g1 hx => h1 σ H0 G1 H1 _ (e.gr g1) fun G2 H2 g2 => h2 σ H0 G2 H2 _ ((e.gr g1).gr g2) fun G3 H3 g3 => by
    have hx' := (hx.mono g2.g).mono g3.g
    have g := (g1.trans g2).trans g3
    cases hx' with
    | lst k1 k2 => exact ⟨_, _, rfl, SqL.of (g3.s _ _ k1), fun p hp => q _ G3 _ (g.trans (.own g3.s hp)) ⟨p, _, rfl, g.h.free hp, g3.s.free hp, upd_same, k2.cut _ _⟩⟩
theorem ev_slF {xs : List D} {tl th : TO} {lo hi : Option Int} (h : EvS K te ds (.p (.fz xs))) (h1 : EvO K tl ds lo) (h2 : EvO K th ds hi) : EvS K (tSl (rSlL K) te tl th) ds (.o (cutD xs lo hi)) := fun σ H0 G H Q e q =>
  h σ H0 G H _ e fun x G1 H1 g1 hx => h1 σ H0 G1 H1 _ (e.gr g1) fun G2 H2 g2 => h2 σ H0 G2 H2 _ ((e.gr g1).gr g2) fun G3 H3 g3 => by
    have hx' := (hx.mono g2.g).mono g3.g
    have g := (g1.trans g2).trans g3
    cases hx' with
    | fz k1 k2 => exact ⟨_, _, rfl, g3.s.seq k1, fun p hp => q _ G3 _ (g.trans (.own g3.s hp)) ⟨p, _, rfl, g.h.free hp, g3.s.free hp, upd_same, k2.cut _ _⟩⟩
theorem ev_rev {xs : List D} (h : EvS K te ds (.p (.lst xs))) : EvS K (tRevL K te) ds (.o xs.reverse) := fun σ H0 G H Q e q =>
  h σ H0 G H _ e fun x G1 H1 g1 hx => by
    cases hx with
    | lst k1 k2 => exact ⟨_, _, rfl, SqL.of (g1.s _ _ k1), fun p hp => q _ G1 _ (g1.trans (.own g1.s hp)) ⟨p, _, rfl, g1.h.free hp, g1.s.free hp, upd_same, k2.rev⟩⟩
end
end HM

/-! Lay3 -/
namespace HM
open PySem L2

/-! ### what is walked -/
def WkD (K : PySem.W.Frag) (J : It) (G : Hp) (xs : List D) : Prop :=
  Walk J xs.length (fun H => Ex G H) (fun i H x H' => ∀ Gt, Ex G Gt → Ex Gt H → ∃ d G', xs[i]? = some d ∧ Gr Gt H G' H' ∧ At K G' x d)
def EvI (K : PySem.W.Frag) (wi : TI) (ds : Env) (xs : List D) : Prop := ∀ (σ : L2.St) (H0 G H : Hp) (R : It → Hp → Prop), En K H0 G H σ ds → (∀ J G' H', Gr G H G' H' → WkD K J G' xs → R J H') → wi σ H R
section
variable {K : PySem.W.Frag} {ds : Env} {ta tb te tl : TE} {t u : TT} {d : D} {s : S}
theorem wk_list {a : Addr} {vs : List V} {xs : List D} {G : Hp} (h : SqL K G a vs) (hv : Ats K G vs xs) : WkD K (Itl K a) G xs := by
  refine ⟨fun i H hi e => ?_, fun H e => ?_, fun i H x H' hi e y => ?_⟩
  · exact (walk_list (K := K) (a := a) (xs := vs)).goes i H (by rw [hv.len]; exact hi) (e.seq h)
  · rw [← hv.len]
    exact (walk_list (K := K) (a := a) (xs := vs)).stops H (e.seq h)
  · obtain ⟨rfl, hx⟩ := (walk_list (K := K) (a := a) (xs := vs)).yields i H x H' (by rw [hv.len]; exact hi) (e.seq h) y
    intro Gt e1 e2
    obtain ⟨d, h1, h2⟩ := hv.get' hx
    exact ⟨d, Gt, h1, .refl e2, h2.mono e1⟩
theorem sqT_ex {a : Addr} {vs : List V} {G H : Hp} (e : Ex G H) (h : G a = some (.tup vs)) : SqT K H a vs := SqT.of (e _ _ h)
theorem wk_tup {a : Addr} {vs : List V} {xs : List D} {G : Hp} (h : G a = some (.tup vs)) (hv : Ats K G vs xs) : WkD K (Itt K a) G xs := by
  refine ⟨fun i H hi e => ?_, fun H e => ?_, fun i H x H' hi e y => ?_⟩
  · exact (walk_tup (K := K) (a := a) (xs := vs)).goes i H (by rw [hv.len]; exact hi) (sqT_ex e h)
  · rw [← hv.len]
    exact (walk_tup (K := K) (a := a) (xs := vs)).stops H (sqT_ex e h)
  · obtain ⟨rfl, hx⟩ := (walk_tup (K := K) (a := a) (xs := vs)).yields i H x H' (by rw [hv.len]; exact hi) (sqT_ex e h) y
    intro Gt e1 e2
    obtain ⟨d, h1, h2⟩ := hv.get' hx
    exact ⟨d, Gt, h1, .refl e2, h2.mono e1⟩
/-- the items of enumerate -/
def enumD (xs : List D) : List D := (List.range xs.length).map fun i => .tup [I (i : Nat), xs.getD i dN]
theorem enumD_len (xs : List D) : (enumD xs).length = xs.length := by unfold enumD; rw [List.length_map, List.length_range]
theorem enumD_get {xs : List D} {i : Nat} {d : D} (h : xs[i]? = some d) : (enumD xs)[i]? = some (.tup [I (i : Nat), d]) := by
  have hi := (List.getElem?_eq_some_iff.mp h).1
  unfold enumD
  rw [List.getElem?_map, List.getElem?_range hi]
  show some (D.tup [I (i : Nat), xs.getD i dN]) = _
  rw [List.getD_eq_getElem?_getD, h]
  rfl
theorem wk_enum {a : Addr} {vs : List V} {xs : List D} {G : Hp} (h : SqL K G a vs) (hv : Ats K G vs xs) : WkD K (Ite K a) G (enumD xs) := by
  refine ⟨fun i H hi e => ?_, fun H e => ?_, fun i H x H' hi e y => ?_⟩
  · exact (walk_enum (K := K) (a := a) (xs := vs)).goes i H (by rw [hv.len, ← enumD_len]; exact hi) (e.seq h)
  · rw [enumD_len, ← hv.len]
    exact (walk_enum (K := K) (a := a) (xs := vs)).stops H (e.seq h)
  · obtain ⟨T, x0, y0, rfl, hT, rfl, e1, e2⟩ := (walk_enum (K := K) (a := a) (xs := vs)).yields i H x H' (by rw [hv.len, ← enumD_len]; exact hi) (e.seq h) y
    cases e1
    intro Gt g1 g2
    obtain ⟨d, h1, h2⟩ := hv.get' e2
    exact ⟨_, _, enumD_get h1, .new g2 hT, .tup upd_same (.cons (.val _) (.cons ((h2.mono g1).mono ((Ex.refl Gt).putR (g2.free hT))) .nil))⟩
def zipD (xs ys : List D) : List D := (xs.zip ys).map fun p => .tup [p.1, p.2]
theorem zipD_len (xs ys : List D) : (zipD xs ys).length = min xs.length ys.length := by unfold zipD; rw [List.length_map, List.length_zip]
theorem zipD_get {xs ys : List D} {i : Nat} {d e : D} (h : xs[i]? = some d) (h' : ys[i]? = some e) : (zipD xs ys)[i]? = some (.tup [d, e]) := by
  unfold zipD
  rw [List.getElem?_map, (List.getElem?_zip_eq_some (z := (d, e))).mpr ⟨h, h'⟩]
  rfl
theorem wk_zip {a b : Addr} {vs ws : List V} {xs ys : List D} {G : Hp} (h : SqL K G a vs) (hv : Ats K G vs xs) (h' : SqL K G b ws) (hw : Ats K G ws ys) : WkD K (Itz K a b) G (zipD xs ys) := by
  have W := walk_zip (K := K) (a := a) (b := b) (xs := vs) (ys := ws) (n := (zipD xs ys).length) (by rw [zipD_len, hv.len, hw.len])
  refine ⟨fun i H hi e => W.goes i H hi ⟨e.seq h, e.seq h'⟩, fun H e => W.stops H ⟨e.seq h, e.seq h'⟩, fun i H x H' hi e y => ?_⟩
  obtain ⟨T, x0, y0, rfl, hT, rfl, e1, e2⟩ := W.yields i H x H' hi ⟨e.seq h, e.seq h'⟩ y
  intro Gt g1 g2
  obtain ⟨d, h1, h2⟩ := hv.get' e1
  obtain ⟨d', h3, h4⟩ := hw.get' e2
  have g3 := (Ex.refl Gt).putR (o := .tup [x0, y0]) (g2.free hT)
  exact ⟨_, _, zipD_get h1 h3, .new g2 hT, .tup upd_same (.cons ((h2.mono g1).mono g3) (.cons ((h4.mono g1).mono g3) .nil))⟩
def rangeD (lo : Int) (n : Nat) : List D := (List.range n).map fun i => I (lo + (i : Nat))
theorem rangeD_len (lo : Int) (n : Nat) : (rangeD lo n).length = n := by unfold rangeD; rw [List.length_map, List.length_range]
theorem rangeD_get {lo : Int} {n i : Nat} (h : i < n) : (rangeD lo n)[i]? = some (I (lo + (i : Nat))) := by
  unfold rangeD
  rw [List.getElem?_map, List.getElem?_range h]
  rfl
theorem wk_range {lo : Int} {n : Nat} {G : Hp} : WkD K (Itr lo n) G (rangeD lo n) := by
  have W := walk_range (lo := lo) (n := n)
  refine ⟨fun i H hi e => W.goes i H (by rw [rangeD_len] at hi; exact hi) trivial, fun H e => by rw [rangeD_len]; exact W.stops H trivial, fun i H x H' hi e y => ?_⟩
  rw [rangeD_len] at hi
  obtain ⟨rfl, rfl⟩ := W.yields i H x H' hi trivial y
  intro Gt g1 g2
  exact ⟨_, Gt, rangeD_get hi, .refl g2, .val _⟩
theorem ei_list {xs : List D} (h : EvS K tl ds (.p (.lst xs))) : EvI K (iList K tl) ds xs := fun σ H0 G H R e q =>
  h σ H0 G H _ e fun v G1 H1 g1 hv => by
    cases hv with
    | lst h1 h2 => exact ⟨_, rfl, ⟨_, SqL.of (g1.s _ _ h1)⟩, q _ G1 H1 g1 (wk_list (SqL.of h1) h2)⟩
theorem ei_listF {xs : List D} (h : EvS K tl ds (.p (.fz xs))) : EvI K (iList K tl) ds xs := fun σ H0 G H R e q =>
  h σ H0 G H _ e fun v G1 H1 g1 hv => by
    cases hv with
    | fz h1 h2 => exact ⟨_, rfl, ⟨_, g1.s.seq h1⟩, q _ G1 H1 g1 (wk_list h1 h2)⟩
theorem ei_tup {xs : List D} (h : EvS K tl ds (.p (.tup xs))) : EvI K (iTup K tl) ds xs := fun σ H0 G H R e q =>
  h σ H0 G H _ e fun v G1 H1 g1 hv => by
    cases hv with
    | tup h1 h2 => exact ⟨_, rfl, ⟨_, SqT.of (g1.s _ _ h1)⟩, q _ G1 H1 g1 (wk_tup h1 h2)⟩
theorem ei_enum {ta : TA} {xs : List D} (h : EvA K ta ds [.lst xs]) : EvI K (iEnum K ta) ds (enumD xs) := fun σ H0 G H R e q =>
  h σ H0 G H _ e fun vs G1 H1 g1 hv => by
    cases hv with
    | cons hv t => cases t; cases hv with
      | lst h1 h2 => exact ⟨_, _, rfl, SqL.of (g1.s _ _ h1), q _ G1 H1 g1 (wk_enum (SqL.of h1) h2)⟩
theorem ei_zip {ta : TA} {xs ys : List D} (h : EvA K ta ds [.lst xs, .lst ys]) : EvI K (iZip K ta) ds (zipD xs ys) := fun σ H0 G H R e q =>
  h σ H0 G H _ e fun vs G1 H1 g1 hv => by
    cases hv with
    | cons hv t => cases hv with
      | lst h1 h2 => cases t with
        | cons hw t => cases t; cases hw with
          | lst h3 h4 => exact ⟨_, _, _, _, rfl, SqL.of (g1.s _ _ h1), SqL.of (g1.s _ _ h3), q _ G1 H1 g1 (wk_zip (SqL.of h1) h2 (SqL.of h3) h4)⟩
theorem ei_range1 {ta : TA} {n : Int} (h : EvA K ta ds [I n]) (h1 : -1000000 ≤ n) (h2 : n ≤ 1000000) : EvI K (iRng1 ta) ds (rangeD 0 n.toNat) := fun σ H0 G H R e q =>
  h σ H0 G H _ e fun vs G1 H1 g1 hv => by
    cases hv with
    | cons hv t => cases t; cases hv; exact ⟨n, rfl, by omega, by omega, q _ G1 H1 g1 wk_range⟩
theorem ei_range2 {ta : TA} {m n : Int} (h : EvA K ta ds [I m, I n]) (h1 : -1000000 ≤ m) (h2 : m ≤ 1000000) (h3 : -1000000 ≤ n) (h4 : n ≤ 1000000) : EvI K (iRng2 ta) ds (rangeD m (n - m).toNat) := fun σ H0 G H R e q =>
  h σ H0 G H _ e fun vs G1 H1 g1 hv => by
    cases hv with
    | cons hv t => cases hv; cases t with
      | cons hw t => cases t; cases hw; exact ⟨m, n, rfl, ⟨by omega, by omega, by omega, by omega⟩, q _ G1 H1 g1 wk_range⟩

/-! ### targets -/
/-- the target g takes d; N of the slots behind it. vs: the comprehension's own slots -/
def SG (K : PySem.W.Frag) (g : TG) (vs : List Nat) (d : D) (ds : Env) (N : Env → Prop) : Prop := ∀ (σ : L2.St) (H0 G H : Hp) (v : V) (Q : L2.St → Hp → Prop), En K H0 G H σ ds → At K G v d →
  (∀ σ' ds', En K H0 G H σ' ds' → ((∀ us, (∀ j ∈ vs, j ∈ us) → L2.wipe σ' us = L2.wipe σ us)) → N ds' → Q σ' H) → g v σ H Q
theorem sg_name {i : Nat} {N : Env → Prop} (h : N (ds.set i (some (.p d)))) : SG K (gName i) [i] d ds N := fun σ H0 G H v Q e hv q =>
  q _ _ (e.setP i hv) (fun us hu => wipe_set (hu i (by simp))) h
theorem sg_pair {i j : Nat} {a b : D} {N : Env → Prop} (h : N ((ds.set i (some (.p a))).set j (some (.p b)))) : SG K (gTup K 2 (gCons (gName i) (gCons (gName j) gNil))) [i, j] (.tup [a, b]) ds N := fun σ H0 G H v Q e hv q => by
  cases hv with
  | tup h1 h2 => cases h2 with
    | cons ha t => cases t with
      | cons hb t => cases t; exact ⟨_, _, rfl, SqT.of (e.gh _ _ h1), rfl, _, _, rfl, _, _, rfl, rfl, q _ _ ((e.setP i ha).setP j hb) (fun us hu => by rw [wipe_set (hu j (by simp)), wipe_set (hu i (by simp))]) h⟩
theorem sg_triple {i j k : Nat} {a b c : D} {N : Env → Prop} (h : N (((ds.set i (some (.p a))).set j (some (.p b))).set k (some (.p c)))) : SG K (gTup K 3 (gCons (gName i) (gCons (gName j) (gCons (gName k) gNil)))) [i, j, k] (.tup [a, b, c]) ds N := fun σ H0 G H v Q e hv q => by
  cases hv with
  | tup h1 h2 => cases h2 with
    | cons ha t => cases t with
      | cons hb t => cases t with
        | cons hc t => cases t; exact ⟨_, _, rfl, SqT.of (e.gh _ _ h1), rfl, _, _, rfl, _, _, rfl, _, _, rfl, rfl, q _ _ (((e.setP i ha).setP j hb).setP k hc) (fun us hu => by rw [wipe_set (hu k (by simp)), wipe_set (hu j (by simp)), wipe_set (hu i (by simp))]) h⟩
theorem sg_four {i j k l : Nat} {a b c f : D} {N : Env → Prop} (h : N ((((ds.set i (some (.p a))).set j (some (.p b))).set k (some (.p c))).set l (some (.p f)))) : SG K (gTup K 4 (gCons (gName i) (gCons (gName j) (gCons (gName k) (gCons (gName l) gNil))))) [i, j, k, l] (.tup [a, b, c, f]) ds N := fun σ H0 G H v Q e hv q => by
  cases hv with
  | tup h1 h2 => cases h2 with
    | cons ha t => cases t with
      | cons hb t => cases t with
        | cons hc t => cases t with
          | cons hf t => cases t; exact ⟨_, _, rfl, SqT.of (e.gh _ _ h1), rfl, _, _, rfl, _, _, rfl, _, _, rfl, _, _, rfl, rfl, q _ _ ((((e.setP i ha).setP j hb).setP k hc).setP l hf) (fun us hu => by rw [wipe_set (hu l (by simp)), wipe_set (hu k (by simp)), wipe_set (hu j (by simp)), wipe_set (hu i (by simp))]) h⟩

/-! ### comprehensions -/
def keptD (bs : List Bool) (ys : List D) : List D := ((bs.zip ys).filter (·.1)).map (·.2)
theorem keptD_step {bs : List Bool} {ys : List D} {i : Nat} {b : Bool} {y : D} (hb : bs[i]? = some b) (hy : ys[i]? = some y) : keptD (bs.take (i + 1)) (ys.take (i + 1)) = keptD (bs.take i) (ys.take i) ++ (if b = true then [y] else []) := by
  have e1 : bs.take (i + 1) = bs.take i ++ [b] := by rw [List.take_succ, hb]; rfl
  have e2 : ys.take (i + 1) = ys.take i ++ [y] := by rw [List.take_succ, hy]; rfl
  have hl : (bs.take i).length = (ys.take i).length := by
    have h1 := (List.getElem?_eq_some_iff.mp hb).1
    have h2 := (List.getElem?_eq_some_iff.mp hy).1
    rw [List.length_take, List.length_take]
    omega
  unfold keptD
  rw [e1, e2, List.zip_append hl, List.filter_append, List.map_append]
  cases b <;> rfl
theorem keptD_len (bs : List Bool) (ys : List D) : (keptD bs ys).length ≤ bs.length := by
  unfold keptD
  rw [List.length_map]
  exact Nat.le_trans (List.length_filter_le _ _) (by rw [List.length_zip]; omega)
theorem keptD_all : ∀ (ys : List D), keptD (List.replicate ys.length true) ys = ys
  | [] => rfl
  | y :: ys => by
    have := keptD_all ys
    unfold keptD at this ⊢
    rw [List.length_cons, List.replicate_succ, List.zip_cons_cons, List.filter_cons, if_pos rfl, List.map_cons, this]
theorem ev_lcF {wi : TI} {g : TG} {gv vs : List Nat} {xs : List D} (bs : List Bool) (ys : List D) (hi : EvI K wi ds xs) (hl : xs.length ≤ 1000) (hb : bs.length = xs.length) (hy : ys.length = xs.length) (hg : ∀ j ∈ gv, j ∈ vs)
    (h : ∀ (i : Nat) (x : D) (b : Bool) (y : D), xs[i]? = some x → bs[i]? = some b → ys[i]? = some y → SG K g gv x (wipeS ds vs) fun ds' => EvT K t ds' b ∧ (b = true → EvS K te ds' (.p y))) :
    EvS K (tLc wi g t te vs) ds (.o (keptD bs ys)) := fun σ H0 G H Q e q =>
  hi σ H0 G H _ e fun J G1 H1 g1 hw Dl hD => by
    refine lc_it hw (fun i H' => ∃ Gt acc, Gr G1 H1 Gt H' ∧ Gt Dl = none ∧ H' Dl = some (.lst acc) ∧ Ats K Gt acc (keptD (bs.take i) (ys.take i))) ?_ ?_ ?_ ?_
    · exact ⟨G1, [], .own g1.s hD, g1.s.free hD, upd_same, .nil⟩
    · rintro i H' _ ⟨Gt, acc, g2, _⟩
      exact g2.g.trans g2.s
    · rintro i x H2 H3 hi' ⟨Gt, acc, g2, hGt, hH, ha⟩ y
      obtain ⟨d, G3, hd, g3, hx⟩ := y Gt g2.g g2.s
      obtain ⟨b, hb'⟩ : ∃ b, bs[i]? = some b := ⟨bs[i]'(by rw [hb]; exact hi'), by simp [hb, hi']⟩
      obtain ⟨yy, hy'⟩ : ∃ y, ys[i]? = some y := ⟨ys[i]'(by rw [hy]; exact hi'), by simp [hy, hi']⟩
      have e3 : En K H0 G3 H3 σ ds := ((e.gr g1).gr g2).gr g3
      refine h i d b yy hd hb' hy' _ H0 G3 H3 x _ (e3.wipe vs) hx fun σ' ds' e4 hwp ⟨ht, hte⟩ => ⟨?_, ?_⟩
      · rw [hwp vs hg, wipe_wipe fun _ z => z]
      · refine ht σ' H0 G3 H3 _ e4 fun G4 H4 g4 => ?_
        have gg := (g2.trans g3).trans g4
        have hD4 : H4 Dl = some (.lst acc) := g4.h _ _ (g3.h _ _ hH)
        have hG4 : G4 Dl = none := by
          rw [g4.n Dl (by rw [g3.h _ _ hH]; simp), g3.n Dl (by rw [hH]; simp)]
          exact hGt
        have st := keptD_step hb' hy'
        cases b with
        | true =>
          show te σ' H4 _
          refine hte rfl σ' H0 G4 H4 _ (e4.gr g4) fun v G5 H5 g5 hv => ?_
          have hD5 : H5 Dl = some (.lst acc) := g5.h _ _ hD4
          have hG5 : G5 Dl = none := by
            rw [g5.n Dl (by rw [hD4]; simp)]
            exact hG4
          refine ⟨acc, hD5, ?_, G5, acc ++ [v], (gg.trans g5).mut hD hG5, hG5, upd_same, ?_⟩
          · rw [ha.len]
            have := keptD_len (bs.take i) (ys.take i)
            rw [List.length_take] at this
            refine Nat.lt_of_le_of_lt (show _ ≤ 1000 by omega) (by decide)
          · rw [st]
            exact (((ha.mono g3.g).mono g4.g).mono g5.g).app (.one hv)
        | false =>
          show ∃ Gt acc, _
          refine ⟨G4, acc, gg, hG4, hD4, ?_⟩
          rw [st]
          show Ats K G4 acc (_ ++ [])
          rw [List.append_nil]
          exact (ha.mono g3.g).mono g4.g
    · rintro H2 ⟨Gt, acc, g2, hGt, hH, ha⟩
      refine q _ Gt H2 (g1.trans g2) ⟨Dl, acc, rfl, g1.h.free hD, hGt, hH, ?_⟩
      rw [List.take_of_length_le (by omega), List.take_of_length_le (by omega)] at ha
      exact ha
theorem et_yes : EvT K tYes ds true := fun σ H0 G H Q e q => q G H (.refl e.gh)
theorem ev_lc {wi : TI} {g : TG} {gv vs : List Nat} {xs : List D} (ys : List D) (hi : EvI K wi ds xs) (hl : xs.length ≤ 1000) (hy : ys.length = xs.length) (hg : ∀ j ∈ gv, j ∈ vs)
    (h : ∀ (i : Nat) (x : D) (y : D), xs[i]? = some x → ys[i]? = some y → SG K g gv x (wipeS ds vs) fun ds' => EvS K te ds' (.p y)) :
    EvS K (tLc wi g tYes te vs) ds (.o ys) := by
  have h1 := ev_lcF (K := K) (ds := ds) (t := tYes) (te := te) (wi := wi) (g := g) (gv := gv) (vs := vs) (xs := xs) (List.replicate ys.length true) ys hi hl (by rw [List.length_replicate, hy]) hy hg fun i x b y hx hb hy => by
    rw [List.getElem?_replicate] at hb
    split at hb
    · cases hb
      intro σ H0 G H v Q e hv q
      exact h i x y hx hy σ H0 G H v Q e hv fun σ' ds' e' w n => q σ' ds' e' w ⟨et_yes, fun _ => n⟩
    · cases hb
  rwa [keptD_all] at h1
/-- by a list of things -/
theorem ev_lcM {α : Type} {wi : TI} {g : TG} {gv vs : List Nat} {l : List α} {fa fb : α → D} (hi : EvI K wi ds (l.map fa)) (hl : l.length ≤ 1000) (hg : ∀ j ∈ gv, j ∈ vs)
    (h : ∀ x ∈ l, SG K g gv (fa x) (wipeS ds vs) fun ds' => EvS K te ds' (.p (fb x))) :
    EvS K (tLc wi g tYes te vs) ds (.o (l.map fb)) := by
  refine ev_lc (l.map fb) hi (by rw [List.length_map]; exact hl) (by rw [List.length_map, List.length_map]) hg fun i x y hx hy => ?_
  rw [List.getElem?_map] at hx hy
  cases q : l[i]? with
  | none => rw [q] at hx; cases hx
  | some z =>
    rw [q] at hx hy
    cases hx
    cases hy
    exact h z (List.mem_of_getElem? q)
end

/-! ### statements -/
def SD (K : PySem.W.Frag) (t : TS) (ds : Env) (N : Env → Prop) (R : S → Prop) : Prop := ∀ (E : Ends) (σ : L2.St) (G0 H0 G H : Hp), Gr G0 H0 G H → En K H0 G H σ ds →
  (∀ ds' σ' G' H', Gr G0 H0 G' H' → Ex G G' → En K H0 G' H' σ' ds' → N ds' → E.nx σ' H') → (∀ v s G' H', Gr G0 H0 G' H' → AtS K H0 G' H' v s → R s → E.rt v H') → t E σ H
section
variable {K : PySem.W.Frag} {ds : Env} {ta tb te tl : TE} {t u : TS} {c : TT} {d : D} {s : S} {N : Env → Prop} {R : S → Prop}
theorem SD.mono {N' : Env → Prop} {R' : S → Prop} (h : SD K t ds N R) (hn : ∀ ds, N ds → N' ds) (hr : ∀ s, R s → R' s) : SD K t ds N' R' := fun E σ G0 H0 G H g e n r =>
  h E σ G0 H0 G H g e (fun ds' σ' G' H' g' x' e' z => n ds' σ' G' H' g' x' e' (hn _ z)) fun v s G' H' g' a z => r v s G' H' g' a (hr _ z)
theorem sd_next (h : N ds) : SD K tNext ds N R := fun E σ G0 H0 G H g e n r => n ds σ G H g (.refl _) e h
theorem sd_seq (h : SD K t ds (fun ds' => SD K u ds' N R) R) : SD K (tSeq t u) ds N R := fun E σ G0 H0 G H g e n r =>
  h { E with nx := u E } σ G0 H0 G H g e (fun ds' σ' G' H' g' x' e' hu => hu E σ' G0 H0 G' H' g' e' (fun ds2 σ2 G2 H2 g2 x2 e2 => n ds2 σ2 G2 H2 g2 (x'.trans x2) e2) r) r
theorem sd_set {i : Nat} (h : EvS K te ds s) (hn : N (ds.set i (some s))) : SD K (tAsg te (gName i)) ds N R := fun E σ G0 H0 G H g e n r =>
  h σ H0 G H _ e fun v G1 H1 g1 hv => n _ _ G1 H1 (g.trans g1) g1.g ((e.gr g1).set i (hv.back e.h0) fun xs hs j ys hj hd hne => by
    subst hs
    obtain ⟨a, vs, rfl, ha, hb, hc, hd'⟩ := hv
    obtain ⟨a', vs', h1, h2, h3, h4, h5⟩ := e.own hd
    rw [h1] at hne
    cases hne
    rw [ha] at h4
    cases h4) hn
theorem sd_asg {g : TG} {gv : List Nat} (h : EvS K te ds (.p d)) (hg : SG K g gv d ds N) : SD K (tAsg te g) ds N R := fun E σ G0 H0 G H gr e n r =>
  h σ H0 G H _ e fun v G1 H1 g1 hv => hg σ H0 G1 H1 v _ (e.gr g1) hv fun σ' ds' e' _ hn => n ds' σ' G1 H1 (gr.trans g1) g1.g e' hn
theorem sd_par {i j : Nat} {a b : D} {ta : TA} (h : EvA K ta ds [a, b]) (hn : N ((ds.set i (some (.p a))).set j (some (.p b)))) : SD K (tPar i j ta) ds N R := fun E σ G0 H0 G H g e n r =>
  h σ H0 G H _ e fun vs G1 H1 g1 hv => by
    cases hv with
    | cons ha t => cases t with
      | cons hb t => cases t; exact ⟨_, _, rfl, n _ _ G1 H1 (g.trans g1) g1.g (((e.gr g1).setP i ha).setP j hb) hn⟩
theorem sd_ret (h : EvS K te ds s) (hr : R s) : SD K (tRet te) ds N R := fun E σ G0 H0 G H g e n r =>
  h σ H0 G H _ e fun v G1 H1 g1 hv => r v s G1 H1 (g.trans g1) (hv.back e.h0) hr
theorem sd_retO {i : Nat} {xs : List D} (h : ds[i]? = some (some (.o xs))) (hr : R (.o xs)) : SD K (tRet (tVar i)) ds N R := fun E σ G0 H0 G H g e n r => by
  obtain ⟨v, hv, ha⟩ := e.get i _ h
  exact ⟨v, hv, r v _ G H g ha hr⟩
theorem sd_if {b : Bool} (h : EvT K c ds b) (h1 : b = true → SD K t ds N R) (h2 : b = false → SD K u ds N R) : SD K (tIfS c t u) ds N R := fun E σ G0 H0 G H g e n r =>
  h σ H0 G H _ e fun G1 H1 g1 => by
    cases b with
    | true => exact h1 rfl E σ G0 H0 G1 H1 (g.trans g1) (e.gr g1) (fun ds2 σ2 G2 H2 g2 x2 e2 => n ds2 σ2 G2 H2 g2 (g1.g.trans x2) e2) r
    | false => exact h2 rfl E σ G0 H0 G1 H1 (g.trans g1) (e.gr g1) (fun ds2 σ2 G2 H2 g2 x2 e2 => n ds2 σ2 G2 H2 g2 (g1.g.trans x2) e2) r
theorem sd_drop (h : EvS K te ds s) (hn : N ds) : SD K (tDrop te) ds N R := fun E σ G0 H0 G H g e n r =>
  h σ H0 G H _ e fun v G1 H1 g1 hv => n ds σ G1 H1 (g.trans g1) g1.g (e.gr g1) hn
def NoO (ds : Env) : Prop := ∀ (j : Nat) (s : S), ds[j]? = some (some s) → (∃ d, s = .p d) ∨ ∃ xs, s = .o xs
/-- an owned list becomes plain data -/
theorem sd_frz {i : Nat} {xs : List D} (h : ds[i]? = some (some (.o xs))) (hno : NoO ds) (hn : SD K t (ds.set i (some (.p (.lst xs)))) N R) : SD K t ds N R := fun E σ G0 H0 G H g e n r => by
  obtain ⟨a, vs, h1, h2, h3, h4, h5⟩ := e.own h
  have g' : Gr G0 H0 (upd G a (.lst vs)) H := g.frz h2 h3 h4
  have hx : Ex G (upd G a (.lst vs)) := (Ex.refl G).putR h3
  refine hn E σ G0 H0 (upd G a (.lst vs)) H g' ⟨e.h0, g'.s, by rw [List.length_set]; exact e.len, fun j s hj => ?_, fun j k ys zs hj hk z => ?_⟩ (fun ds2 σ2 G2 H2 g2 x2 e2 => n ds2 σ2 G2 H2 g2 (hx.trans x2) e2) r
  · rcases get_set hj with ⟨rfl, q⟩ | ⟨hne, q⟩
    · cases q
      exact ⟨_, h1, .lst upd_same (h5.mono hx)⟩
    · obtain ⟨v, hv, ha⟩ := e.get j s q
      refine ⟨v, hv, ?_⟩
      cases s with
      | p d => exact At.mono hx ha
      | o ys =>
        obtain ⟨a', vs', rfl, k1, k2, k3, k4⟩ := ha
        have hne2 : a' ≠ a := fun z => hne (e.ne j i ys xs q h (by rw [hv, h1, z]))
        exact ⟨a', vs', rfl, k1, by rw [upd_ne hne2]; exact k2, k3, k4.mono hx⟩
      | n C f ys => rcases hno j _ q with ⟨_, z⟩ | ⟨_, z⟩ <;> cases z
      | q xss => rcases hno j _ q with ⟨_, z⟩ | ⟨_, z⟩ <;> cases z
      | g kvs => rcases hno j _ q with ⟨_, z⟩ | ⟨_, z⟩ <;> cases z
  · rcases get_set hj with ⟨rfl, q⟩ | ⟨hne, q⟩
    · cases q
    · rcases get_set hk with ⟨rfl, q'⟩ | ⟨hne', q'⟩
      · cases q'
      · exact e.ne j k ys zs q q' z
/-- xs.append(e), the list an owned one -/
theorem sd_app {i : Nat} {xs : List D} (h : ds[i]? = some (some (.o xs))) (hno : NoO ds) (he : EvS K te ds (.p d)) (hl : xs.length < 1000) (hn : N (ds.set i (some (.o (xs ++ [d]))))) :
    SD K (tDrop (tBM K "list" rAppend (tVar i) (tCons te tNil))) ds N R := fun E σ G0 H0 G H g e n r => by
  obtain ⟨a, vs, h1, h2, h3, h4, h5⟩ := e.own h
  refine ⟨_, h1, .inl ⟨rfl, _, SqL.of h4⟩, he σ H0 G H _ e fun v G1 H1 g1 hv => ?_⟩
  have e1 := e.gr g1
  obtain ⟨a', vs', k1, k2, k3, k4, k5⟩ := e1.own h
  rw [h1] at k1
  cases k1
  refine ⟨a, _, v, rfl, rfl, k4, Nat.lt_of_lt_of_le (m := 1000) (by rw [k5.len]; exact hl) (by decide), ?_⟩
  have gg : Gr G0 H0 G1 (upd H1 a (.lst (vs' ++ [v]))) := (g.trans g1).mut k2 k3
  refine n _ σ G1 _ gg g1.g ⟨e1.h0.putR k2, gg.s, by rw [List.length_set]; exact e1.len, fun j s hj => ?_, fun j k ys zs hj hk z => ?_⟩ hn
  · rcases get_set hj with ⟨rfl, q⟩ | ⟨hne, q⟩
    · cases q
      exact ⟨_, h1, a, _, rfl, k2, k3, upd_same, k5.app (.one hv)⟩
    · obtain ⟨w, hw, ha⟩ := e1.get j s q
      refine ⟨w, hw, ?_⟩
      cases s with
      | p d => exact ha
      | o ys =>
        obtain ⟨b, ws, rfl, m1, m2, m3, m4⟩ := ha
        have hne2 : b ≠ a := fun z => hne (e.ne j i ys xs q h (by rw [hw, h1, z]))
        exact ⟨b, ws, rfl, m1, m2, by rw [upd_ne hne2]; exact m3, m4⟩
      | n C f ys => rcases hno j _ q with ⟨_, z⟩ | ⟨_, z⟩ <;> cases z
      | q xss => rcases hno j _ q with ⟨_, z⟩ | ⟨_, z⟩ <;> cases z
      | g kvs => rcases hno j _ q with ⟨_, z⟩ | ⟨_, z⟩ <;> cases z
  · rcases get_set hj with ⟨rfl, q⟩ | ⟨hne, q⟩
    · rcases get_set hk with ⟨rfl, q'⟩ | ⟨hne', q'⟩
      · rfl
      · exact e.ne _ _ _ _ h q' z
    · rcases get_set hk with ⟨rfl, q'⟩ | ⟨hne', q'⟩
      · exact e.ne _ _ _ _ q h z
      · exact e.ne j k ys zs q q' z
theorem sd_for {wi : TI} {g : TG} {gv : List Nat} {xs : List D} (hi : EvI K wi ds xs) (Iv : Nat → Env → Prop) (h0 : Iv 0 ds)
    (hs : ∀ (i : Nat) (x : D) (ds' : Env), xs[i]? = some x → Iv i ds' → SG K g gv x ds' fun ds2 => SD K t ds2 (Iv (i + 1)) R) (hd : ∀ ds', Iv xs.length ds' → N ds') : SD K (tFor wi g t) ds N R := fun E σ G0 H0 G H gr e n r =>
  hi σ H0 G H _ e fun J G1 H1 g1 hw => by
    refine for_it hw (fun i σ' H' => ∃ ds' G', Ex G1 G' ∧ Gr G0 H0 G' H' ∧ En K H0 G' H' σ' ds' ∧ Iv i ds') ⟨ds, G1, .refl _, gr.trans g1, e.gr g1, h0⟩ ?_ ?_ ?_
    · rintro i σ' H' _ ⟨ds', G', x1, x2, x3, x4⟩
      exact x1.trans x2.s
    · rintro i x σ' H' H2 hi' ⟨ds', G', x1, x2, x3, x4⟩ y
      obtain ⟨d, G2, hd', g2, hx⟩ := y G' x1 x2.s
      refine hs i d ds' hd' x4 σ' H0 G2 H2 x _ (x3.gr g2) hx fun σ2 ds2 e2 _ hb => ?_
      exact hb _ σ2 G0 H0 G2 H2 (x2.trans g2) e2 (fun ds3 σ3 G3 H3 g3 x5 e3 hI => ⟨ds3, G3, (x1.trans g2.g).trans x5, g3, e3, hI⟩) r
    · rintro σ' H' ⟨ds', G', x1, x2, x3, x4⟩
      exact n ds' σ' G' H' x2 (g1.g.trans x1) x3 (hd ds' x4)
theorem sd_while (Iv : Env → Prop) (μ : Env → Nat) (h0 : Iv ds)
    (hs : ∀ ds', Iv ds' → ∃ b, EvT K c ds' b ∧ (b = true → SD K t ds' (fun ds2 => Iv ds2 ∧ μ ds2 < μ ds') R) ∧ (b = false → N ds')) : SD K (tWhile c t) ds N R := fun E σ G0 H0 G H g e n r =>
  ⟨fun m σ' H' => ∃ ds' G', m = μ ds' ∧ Ex G G' ∧ Gr G0 H0 G' H' ∧ En K H0 G' H' σ' ds' ∧ Iv ds', ⟨_, ds, G, rfl, .refl _, g, e, h0⟩, by
    rintro m σ' H' ⟨ds', G', rfl, x1, x2, x3, x4⟩
    obtain ⟨b, hb, h1, h2⟩ := hs ds' x4
    refine hb σ' H0 G' H' _ x3 fun G2 H2 g2 => ?_
    cases b with
    | true =>
      refine ⟨fun σ3 H3 => ∃ ds3 G3, Ex G G3 ∧ Gr G0 H0 G3 H3 ∧ En K H0 G3 H3 σ3 ds3 ∧ Iv ds3 ∧ μ ds3 < μ ds', fun σ3 H3 ⟨ds3, G3, y1, y2, y3, y4, y5⟩ => ⟨_, y5, ds3, G3, rfl, y1, y2, y3, y4⟩, ?_⟩
      exact h1 rfl _ σ' G0 H0 G2 H2 (x2.trans g2) (x3.gr g2) (fun ds3 σ3 G3 H3 g3 x5 e3 hI => ⟨ds3, G3, (x1.trans g2.g).trans x5, g3, e3, hI.1, hI.2⟩) r
    | false => exact n ds' σ' G2 H2 (x2.trans g2) (x1.trans g2.g) (x3.gr g2) (h2 rfl)⟩
/-- what a def's body does is what its promise says -/
theorem SD.run {P : List D → S → Prop} {M : Nat} {vs : List V} {as : List D} {G H : Hp} {Q : VK} (g : Ex G H) (ha : Ats K G vs as) (q : ∀ v G' H', Gr G H G' H' → AtS K H G' H' v s → Q v H')
    (h : SD K t (as.map (fun d => some (S.p d)) ++ List.replicate (M - as.length) none) (fun _ => s = .p dN) (fun s' => s' = s)) : t { nx := fun _ H' => Q .non H', rt := Q } (vs.map some ++ List.replicate (M - vs.length) none) H := by
  refine h _ _ G H G H (.refl g) ⟨.refl _, g, ?_, fun i s' hi => ?_, fun i j xs ys hi hj => ?_⟩ (fun ds' σ' G' H' g' _ _ hN => ?_) (fun v s' G' H' g' hv hs => ?_)
  · rw [List.length_append, List.length_append, List.length_map, List.length_map, List.length_replicate, List.length_replicate, ha.len]
  · by_cases hl : i < as.length
    · rw [List.getElem?_append_left (by rw [List.length_map]; exact hl), List.getElem?_map] at hi
      cases q' : as[i]? with
      | none => rw [q'] at hi; cases hi
      | some d =>
        rw [q'] at hi
        cases hi
        obtain ⟨v, h1, h2⟩ := ha.get q'
        refine ⟨v, ?_, h2⟩
        rw [List.getElem?_append_left (by rw [List.length_map, ha.len]; exact hl), List.getElem?_map, h1]
        rfl
    · rw [List.getElem?_append_right (by rw [List.length_map]; omega), List.getElem?_replicate] at hi
      split at hi <;> cases hi
  · by_cases hl : i < as.length
    · rw [List.getElem?_append_left (by rw [List.length_map]; exact hl), List.getElem?_map] at hi
      cases q' : as[i]? with
      | none => rw [q'] at hi; cases hi
      | some d => rw [q'] at hi; cases hi
    · rw [List.getElem?_append_right (by rw [List.length_map]; omega), List.getElem?_replicate] at hi
      split at hi <;> cases hi
  · exact q _ G' H' g' (by rw [hN]; exact .val _)
  · exact q v G' H' g' (by rw [← hs]; exact hv)
end

/-! ### an expression whose value is a scalar may read the owned lists -/
def frzS : S → Option S
  | .p d => some (.p d)
  | .o xs => some (.p (.lst xs))
  | .n C f xs => some (.p (.ins C [(f, .lst xs)]))
  | .q xss => some (.p (.lst (xss.map D.lst)))
  | .g _ => none
def frzE (ds : Env) : Env := ds.map fun o => o.bind frzS
section
variable {K : PySem.W.Frag} {ds : Env} {te : TE} {t : TT}
theorem frzE_get {i : Nat} {s : S} (h : (frzE ds)[i]? = some (some s)) : ∃ s', ds[i]? = some (some s') ∧ frzS s' = some s := by
  unfold frzE at h
  rw [List.getElem?_map] at h
  cases q : ds[i]? with
  | none => rw [q] at h; cases h
  | some o =>
    rw [q] at h
    cases o with
    | none => cases h
    | some s' => exact ⟨s', rfl, Option.some.inj h⟩
open Classical in
theorem En.frz {H0 G H : Hp} {σ : L2.St} (e : En K H0 G H σ ds) : ∃ G1, Ex G G1 ∧ Ex G1 H ∧ En K H0 G1 H σ (frzE ds) := by
  let P : Addr → Prop := fun a => (∃ (i : Nat) (xs : List D), ds[i]? = some (some (.o xs)) ∧ σ[i]? = some (some (.ref a))) ∨ (∃ (i : Nat) (C : Addr) (f : Str) (xs : List D), ds[i]? = some (some (.n C f xs)) ∧
    (σ[i]? = some (some (.ref a)) ∨ ∃ x dx, σ[i]? = some (some (.ref x)) ∧ H x = some (.ins C dx [(f, .ref a)]))) ∨ (∃ (i : Nat) (xss : List (List D)), ds[i]? = some (some (.q xss)) ∧ (σ[i]? = some (some (.ref a)) ∨ ∃ (x : Addr) (bs : List Addr), σ[i]? = some (some (.ref x)) ∧ H x = some (.lst (bs.map V.ref)) ∧ a ∈ bs))
  let G1 : Hp := fun a => if P a then H a else G a
  have x1 : Ex G G1 := fun a o h => by
    show (if P a then H a else G a) = some o
    by_cases p : P a
    · rw [if_pos p]; exact e.gh _ _ h
    · rw [if_neg p]; exact h
  have x2 : Ex G1 H := fun a o h => by
    have h' : (if P a then H a else G a) = some o := h
    by_cases p : P a
    · rw [if_pos p] at h'; exact h'
    · rw [if_neg p] at h'; exact e.gh _ _ h'
  refine ⟨G1, x1, x2, e.h0, x2, by unfold frzE; rw [List.length_map]; exact e.len, fun i s h => ?_, fun i j xs ys h => ?_⟩
  · obtain ⟨s', h1, h2⟩ := frzE_get h
    obtain ⟨v, hv, ha⟩ := e.get i s' h1
    refine ⟨v, hv, ?_⟩
    cases s' with
    | p d => cases h2; exact At.mono x1 ha
    | o xs =>
      cases h2
      obtain ⟨a, vs, rfl, k1, k2, k3, k4⟩ := ha
      refine .lst ?_ (k4.mono x1)
      show (if P a then H a else G a) = _
      rw [if_pos (.inl ⟨i, xs, h1, hv⟩)]
      exact k3
    | n C f xs =>
      cases h2
      obtain ⟨x, dx, q, vs, rfl, a1, a2, a3, a4, a5, a6, a7, a8⟩ := ha
      have px : G1 x = some (.ins C dx [(f, .ref q)]) := by
        show (if P x then H x else G x) = _
        rw [if_pos (.inr (.inl ⟨i, C, f, xs, h1, .inl hv⟩))]
        exact a6
      have pq : G1 q = some (.lst vs) := by
        show (if P q then H q else G q) = _
        rw [if_pos (.inr (.inl ⟨i, C, f, xs, h1, .inr ⟨x, dx, hv, a6⟩⟩))]
        exact a7
      exact .ins px (.cons (.lst pq (a8.mono x1)) .nil)
    | q xss =>
      cases h2
      obtain ⟨a, bs, rfl, a1, a2, a3, a4, a5⟩ := ha
      have pa : G1 a = some (.lst (bs.map V.ref)) := by
        show (if P a then H a else G a) = _
        rw [if_pos (.inr (.inr ⟨i, xss, h1, .inl hv⟩))]
        exact a3
      refine .lst pa ?_
      have key : ∀ {cs : List Addr} {yss : List (List D)}, (∀ b ∈ cs, b ∈ bs) → OwnL K H0 G H cs yss → Ats K G1 (cs.map V.ref) (yss.map D.lst) := by
        intro cs yss hc ho
        induction ho with
        | nil => exact .nil
        | @cons b cs' vs xs yss' b1 b2 b3 b4 _ ih =>
          refine .cons (.lst ?_ (b4.mono x1)) (ih fun c hc' => hc c (List.mem_cons_of_mem _ hc'))
          show (if P b then H b else G b) = _
          rw [if_pos (.inr (.inr ⟨i, xss, h1, .inr ⟨a, bs, hv, a3, hc b List.mem_cons_self⟩⟩))]
          exact b3
      exact key (fun _ z => z) a4
    | g kvs => cases h2
  · obtain ⟨s', h1, h2⟩ := frzE_get h
    cases s' <;> cases h2
open Classical in
theorem Gr.unfrz {G G1 H G2 H2 : Hp} (e : Ex G H) (g : Gr G1 H G2 H2) : ∃ G3, Gr G H G3 H2 := by
  refine ⟨fun a => if H a = none then G2 a else G a, fun a o h => ?_, g.h, fun a o h => ?_, fun a h => ?_⟩
  · show (if H a = none then G2 a else G a) = some o
    rw [if_neg (by rw [e _ _ h]; simp)]
    exact h
  · have h' : (if H a = none then G2 a else G a) = some o := h
    by_cases p : H a = none
    · rw [if_pos p] at h'; exact g.s _ _ h'
    · rw [if_neg p] at h'; exact g.h _ _ (e _ _ h')
  · show (if H a = none then G2 a else G a) = G a
    rw [if_neg h]
theorem ev_frz {v : V} (h : EvS K te (frzE ds) (.p (.val v))) : EvS K te ds (.p (.val v)) := fun σ H0 G H Q e q => by
  obtain ⟨G1, x1, x2, e1⟩ := e.frz
  refine h σ H0 G1 H Q e1 fun v' G2 H2 g2 hv => ?_
  cases hv
  obtain ⟨G3, g3⟩ := g2.unfrz e.gh
  exact q v G3 H2 g3 (.val v)
theorem et_frz {b : Bool} (h : EvT K t (frzE ds) b) : EvT K t ds b := fun σ H0 G H Q e q => by
  obtain ⟨G1, x1, x2, e1⟩ := e.frz
  refine h σ H0 G1 H Q e1 fun G2 H2 g2 => ?_
  obtain ⟨G3, g3⟩ := g2.unfrz e.gh
  exact q G3 H2 g3
end
end HM

/-! Lay4 -/
namespace HM
open PySem L2

/-! ### deep == -/
def pyV : V → PyData
  | .bl b => .bool b
  | .int i => .int i
  | .str x => .str x
  | _ => .none
mutual
def toPy : D → PyData
  | .val v => pyV v
  | .lst xs => .list (toPys xs)
  | .fz xs => .list (toPys xs)
  | .tup xs => .tuple (toPys xs)
  | .ins _ _ => .none
  | .emp => .none
def toPys : List D → List PyData
  | [] => []
  | x :: xs => toPy x :: toPys xs
end
def plV : V → Bool
  | .non => true
  | .bl _ => true
  | .int _ => true
  | _ => false
/-- data that == can be asked of, at most n deep -/
def pl : Nat → D → Bool
  | _, .val v => plV v
  | n + 1, .lst xs => xs.all (pl n)
  | n + 1, .fz xs => xs.all (pl n)
  | n + 1, .tup xs => xs.all (pl n)
  | _, _ => false
theorem toPys_map : ∀ xs : List D, toPys xs = xs.map toPy
  | [] => rfl
  | x :: xs => by rw [List.map_cons, ← toPys_map xs]; rfl
theorem toPys_get {xs : List D} {i : Nat} : (toPys xs)[i]? = xs[i]?.map toPy := by rw [toPys_map, List.getElem?_map]
theorem lay_all {n : Nat} (ih : ∀ d, pl n d = true → (toPy d).canLay0 = true ∧ (toPy d).depth ≤ n) : ∀ xs : List D, xs.all (pl n) = true → PyData.canLayAll0 (toPys xs) = true ∧ PyData.depthAll (toPys xs) ≤ n
  | [], _ => ⟨rfl, Nat.zero_le _⟩
  | x :: xs, h => by
    rw [List.all_cons, Bool.and_eq_true] at h
    obtain ⟨h1, h2⟩ := ih x h.1
    obtain ⟨h3, h4⟩ := lay_all ih xs h.2
    constructor
    · show (PyData.canLay0 (toPy x) && PyData.canLayAll0 (toPys xs)) = true
      rw [h1, h3]; rfl
    · show max (PyData.depth (toPy x)) (PyData.depthAll (toPys xs)) ≤ n
      omega
theorem pl_lay : ∀ (n : Nat) (d : D), pl n d = true → (toPy d).canLay0 = true ∧ (toPy d).depth ≤ n
  | n, .val v, h => by
    cases v <;> first | exact ⟨rfl, Nat.zero_le _⟩ | (unfold pl plV at h; cases h)
  | n + 1, .lst xs, h => by
    obtain ⟨h1, h2⟩ := lay_all (pl_lay n) xs h
    exact ⟨h1, Nat.succ_le_succ h2⟩
  | n + 1, .fz xs, h => by
    obtain ⟨h1, h2⟩ := lay_all (pl_lay n) xs h
    exact ⟨h1, Nat.succ_le_succ h2⟩
  | n + 1, .tup xs, h => by
    obtain ⟨h1, h2⟩ := lay_all (pl_lay n) xs h
    exact ⟨h1, Nat.succ_le_succ h2⟩
  | 0, .lst xs, h => by unfold pl at h; cases h
  | 0, .fz xs, h => by unfold pl at h; cases h
  | 0, .tup xs, h => by unfold pl at h; cases h
  | 0, .ins _ _, h => by unfold pl at h; cases h
  | n + 1, .ins _ _, h => by unfold pl at h; cases h
  | 0, .emp, h => by unfold pl at h; cases h
  | n + 1, .emp, h => by unfold pl at h; cases h
theorem pl_shaped {n : Nat} (hn : n ≤ 64) {d : D} (h : pl n d = true) : SeqAt.shaped (toPy d) = true := by
  obtain ⟨h1, h2⟩ := pl_lay n d h
  unfold SeqAt.shaped
  rw [h1, decide_eq_true (Nat.le_trans h2 hn)]
  rfl
section
variable {K : PySem.W.Frag} {G H : Hp}
theorem ats_dp {n : Nat} (ih : ∀ d v, pl n d = true → At K G v d → Dp K H v (toPy d)) : ∀ (xs : List D) (vs : List V), xs.all (pl n) = true → Ats K G vs xs → DpAll K H vs (toPys xs)
  | [], _, _, h => by cases h; exact .nil
  | x :: xs, _, h, ha => by
    rw [List.all_cons, Bool.and_eq_true] at h
    cases ha with
    | cons h1 h2 => exact .cons (ih _ _ h.1 h1) (ats_dp ih xs _ h.2 h2)
theorem at_dp (e : Ex G H) : ∀ (n : Nat) (d : D) (v : V), pl n d = true → At K G v d → Dp K H v (toPy d)
  | n, .val v, _, h, ha => by
    cases ha
    cases v <;> first | exact .non | exact .bl _ | exact .int _ | exact .str _ | (unfold pl plV at h; cases h)
  | n + 1, .lst xs, _, h, ha => by
    cases ha with
    | lst h1 h2 => exact .lst (SqL.of (e _ _ h1)) (ats_dp (at_dp e n) _ _ h h2)
  | n + 1, .fz xs, _, h, ha => by
    cases ha with
    | fz h1 h2 => exact .lst (e.seq h1) (ats_dp (at_dp e n) _ _ h h2)
  | n + 1, .tup xs, _, h, ha => by
    cases ha with
    | tup h1 h2 => exact .tup (SqT.of (e _ _ h1)) (ats_dp (at_dp e n) _ _ h h2)
  | 0, .lst xs, _, h, _ => by unfold pl at h; cases h
  | 0, .fz xs, _, h, _ => by unfold pl at h; cases h
  | 0, .tup xs, _, h, _ => by unfold pl at h; cases h
  | 0, .ins _ _, _, h, _ => by unfold pl at h; cases h
  | n + 1, .ins _ _, _, h, _ => by unfold pl at h; cases h
  | 0, .emp, _, h, _ => by unfold pl at h; cases h
  | n + 1, .emp, _, h, _ => by unfold pl at h; cases h
end
def eqD (a b : D) : Bool := PyData.eqv (toPy a) (toPy b)
section
variable {K : PySem.W.Frag} {ds : Env} {ta tb te tl : TE} {t u : TT} {a b d : D} {s : S}
theorem rd_eqD (n : Nat) (ha : pl n a = true) (hb : pl n b = true) (hn : n ≤ 64 := by decide) : RD K (rEqD K) a b (.p (B (eqD a b))) := fun G H x y Q e hx hy q =>
  ⟨_, _, at_dp e n _ _ ha hx, at_dp e n _ _ hb hy, pl_shaped hn ha, pl_shaped hn hb, q _ G H (.refl e) (.val _)⟩
theorem rd_neD (n : Nat) (ha : pl n a = true) (hb : pl n b = true) (hn : n ≤ 64 := by decide) : RD K (rNeD K) a b (.p (B (!eqD a b))) := fun G H x y Q e hx hy q =>
  ⟨_, _, at_dp e n _ _ ha hx, at_dp e n _ _ hb hy, pl_shaped hn ha, pl_shaped hn hb, q _ G H (.refl e) (.val _)⟩
/-- the ints, and tuples and lists of such -/
def pi : Nat → D → Bool
  | _, .val (.int _) => true
  | n + 1, .lst xs => xs.all (pi n)
  | n + 1, .tup xs => xs.all (pi n)
  | _, _ => false
theorem pi_shape {n : Nat} {d : D} (h : pi n d = true) : (∃ i, d = I i) ∨ (∃ m xs, n = m + 1 ∧ d = .lst xs ∧ xs.all (pi m) = true) ∨ (∃ m xs, n = m + 1 ∧ d = .tup xs ∧ xs.all (pi m) = true) := by
  cases d with
  | val v =>
    cases v <;> first | exact .inl ⟨_, rfl⟩ | (cases n <;> (unfold pi at h; cases h))
  | lst xs =>
    cases n with
    | zero => unfold pi at h; cases h
    | succ m => exact .inr (.inl ⟨m, xs, rfl, rfl, h⟩)
  | tup xs =>
    cases n with
    | zero => unfold pi at h; cases h
    | succ m => exact .inr (.inr ⟨m, xs, rfl, rfl, h⟩)
  | fz xs => cases n <;> (unfold pi at h; cases h)
  | ins C fs => cases n <;> (unfold pi at h; cases h)
  | emp => cases n <;> (unfold pi at h; cases h)
theorem pl_I (n : Nat) (i : Int) : pl n (I i) = true := by cases n <;> rfl
theorem pi_I (n : Nat) (i : Int) : pi n (I i) = true := by cases n <;> rfl
theorem pi_pl : ∀ (n : Nat) (d : D), pi n d = true → pl n d = true := by
  intro n
  induction n with
  | zero =>
    intro d h
    rcases pi_shape h with ⟨i, rfl⟩ | ⟨m, xs, e, _⟩ | ⟨m, xs, e, _⟩
    · rfl
    · cases e
    · cases e
  | succ n ih =>
    intro d h
    rcases pi_shape h with ⟨i, rfl⟩ | ⟨m, xs, e, rfl, h'⟩ | ⟨m, xs, e, rfl, h'⟩
    · rfl
    · cases e
      show xs.all (pl n) = true
      rw [List.all_eq_true] at h' ⊢
      exact fun x hx => ih x (h' x hx)
    · cases e
      show xs.all (pl n) = true
      rw [List.all_eq_true] at h' ⊢
      exact fun x hx => ih x (h' x hx)
theorem eqAll_iff {n : Nat} (ih : ∀ a b, pi n a = true → pi n b = true → (PyData.eqv (toPy a) (toPy b) = true ↔ a = b)) : ∀ xs ys : List D, xs.all (pi n) = true → ys.all (pi n) = true → (PyData.eqvAll (toPys xs) (toPys ys) = true ↔ xs = ys)
  | [], [], _, _ => ⟨fun _ => rfl, fun _ => rfl⟩
  | [], y :: ys, _, _ => ⟨fun h => (nomatch h), fun h => (nomatch h)⟩
  | x :: xs, [], _, _ => ⟨fun h => (nomatch h), fun h => (nomatch h)⟩
  | x :: xs, y :: ys, h1, h2 => by
    rw [List.all_cons, Bool.and_eq_true] at h1 h2
    show (PyData.eqv (toPy x) (toPy y) && PyData.eqvAll (toPys xs) (toPys ys)) = true ↔ _
    rw [Bool.and_eq_true, ih x y h1.1 h2.1, eqAll_iff ih xs ys h1.2 h2.2, List.cons.injEq]
theorem eqD_iff : ∀ (n : Nat) (a b : D), pi n a = true → pi n b = true → (eqD a b = true ↔ a = b) := by
  have ii : ∀ i j : Int, eqD (I i) (I j) = true ↔ I i = I j := fun i j => by
    show (i == j) = true ↔ _
    rw [beq_iff_eq]
    exact ⟨fun h => by rw [h], fun h => by cases h; rfl⟩
  have no : ∀ {a b : D}, eqD a b = false → a ≠ b → (eqD a b = true ↔ a = b) := fun h1 h2 => ⟨fun z => (by rw [h1] at z; cases z), fun z => absurd z h2⟩
  intro n
  induction n with
  | zero =>
    intro a b ha hb
    rcases pi_shape ha with ⟨i, rfl⟩ | ⟨m, xs, e, _⟩ | ⟨m, xs, e, _⟩
    · rcases pi_shape hb with ⟨j, rfl⟩ | ⟨m, xs, e, _⟩ | ⟨m, xs, e, _⟩
      · exact ii i j
      · cases e
      · cases e
    · cases e
    · cases e
  | succ n ih =>
    intro a b ha hb
    rcases pi_shape ha with ⟨i, rfl⟩ | ⟨m, xs, e, rfl, h⟩ | ⟨m, xs, e, rfl, h⟩
    · rcases pi_shape hb with ⟨j, rfl⟩ | ⟨m, xs, e, rfl, h⟩ | ⟨m, xs, e, rfl, h⟩
      · exact ii i j
      · exact no rfl (fun z => nomatch z)
      · exact no rfl (fun z => nomatch z)
    · cases e
      rcases pi_shape hb with ⟨j, rfl⟩ | ⟨m, ys, e, rfl, h'⟩ | ⟨m, ys, e, rfl, h'⟩
      · exact no rfl (fun z => nomatch z)
      · cases e
        show PyData.eqvAll (toPys xs) (toPys ys) = true ↔ _
        rw [eqAll_iff ih xs ys h h', D.lst.injEq]
      · exact no rfl (fun z => nomatch z)
    · cases e
      rcases pi_shape hb with ⟨j, rfl⟩ | ⟨m, ys, e, rfl, h'⟩ | ⟨m, ys, e, rfl, h'⟩
      · exact no rfl (fun z => nomatch z)
      · exact no rfl (fun z => nomatch z)
      · cases e
        show PyData.eqvAll (toPys xs) (toPys ys) = true ↔ _
        rw [eqAll_iff ih xs ys h h', D.tup.injEq]
theorem eqD_refl {n : Nat} {a : D} (h : pi n a = true) : eqD a a = true := (eqD_iff n a a h h).mpr rfl
theorem eqD_not {n : Nat} {a b : D} (h : pi n a = true) (h' : pi n b = true) (hn : a ≠ b) : eqD a b = false := by
  cases q : eqD a b with
  | false => rfl
  | true => exact absurd ((eqD_iff n a b h h').mp q) hn
/-- xs.index(y), the first place -/
theorem ev_index {xs : List D} {ta : TA} {j : Nat} (n : Nat) (h : EvS K te ds (.p (.lst xs))) (hy : EvA K ta ds [d]) (hx : xs.all (pl n) = true) (hd : pl n d = true) (hj : ∃ z, xs[j]? = some z ∧ eqD z d = true) (hm : ∀ (m : Nat) (z : D), m < j → xs[m]? = some z → eqD z d = false) (hn : n ≤ 63 := by decide) :
    EvS K (tBM K "list" (rIndexD K) te ta) ds (.p (I (j : Nat))) := fun σ H0 G H Q e q =>
  h σ H0 G H _ e fun v G1 H1 g1 hv => by
    cases hv with
    | lst h1 h2 =>
      refine ⟨.inl ⟨rfl, _, SqL.of (g1.s _ _ h1)⟩, hy σ H0 G1 H1 _ (e.gr g1) fun vs G2 H2 g2 hvs => ?_⟩
      cases hvs with
      | cons hd' t =>
        cases t
        obtain ⟨z, z1, z2⟩ := hj
        have hxl : pl (n + 1) (.lst xs) = true := hx
        refine ⟨_, _, toPy d, toPys xs, j, toPy z, rfl, rfl, at_dp g2.s (n + 1) (.lst xs) _ hxl (.lst (g2.g _ _ h1) (h2.mono g2.g)), at_dp g2.s n _ _ hd hd', pl_shaped (d := .lst xs) (by omega) hxl, pl_shaped (by omega) hd, ?_, z2, fun m z' hm' hz' => ?_, q _ G2 H2 (g1.trans g2) (.val _)⟩
        · rw [toPys_get, z1]; rfl
        · rw [toPys_get] at hz'
          cases q' : xs[m]? with
          | none => rw [q'] at hz'; cases hz'
          | some z'' =>
            rw [q'] at hz'
            cases hz'
            exact hm m z'' hm' q'

/-! ### isinstance -/
structure InsT (K : PySem.W.Frag) (C : Addr) : Prop where
  cl : Cls K C
  ha : PySem.W.findIn K (.ref C) "__class__" = some (some (.builtin "object.__class__"))
  hn : PySem.W.specialIn K (.builtin "object.__class__") "__get__" = some (some (.builtin "getset_descriptor.__get__"))
  htk : PySem.W.takesIn K (.builtin "object.__class__") = some true
  hm : PySem.W.mroIn K C (.type "object") = some true
inductive TyD (K : PySem.W.Frag) : D → Value → Prop
  | non : TyD K dN (.type "NoneType")
  | bl (b : Bool) : TyD K (B b) (.type "bool")
  | int (i : Int) : TyD K (I i) (.type "int")
  | str (x : Str) : TyD K (.val (.str x)) (.type "str")
  | lst (xs : List D) : TyD K (.lst xs) (.type "list")
  | tup (xs : List D) : TyD K (.tup xs) (.type "tuple")
  | emp : TyD K .emp (.type "dict")
  | ins {C : Addr} (fs : List (Str × D)) (h : InsT K C) : TyD K (.ins C fs) (.ref C)
theorem TyD.ok {G H : Hp} {v : V} {t : Value} (e : Ex G H) (h : TyD K d t) (ha : At K G v d) : TyX K H v t := by
  cases h with
  | non => cases ha; exact .base .non
  | bl b => cases ha; exact .base (.bl _)
  | int i => cases ha; exact .base (.int _)
  | str x => cases ha; exact .base (.str _)
  | lst xs => cases ha with | lst h1 _ => exact .base (.lst (e _ _ h1))
  | tup xs => cases ha with | tup h1 _ => exact .base (.tup (e _ _ h1))
  | emp => cases ha with | emp h1 => exact .base (.dK (e _ _ h1))
  | ins fs h => cases ha with | ins h1 _ => exact .base (.ins (e _ _ h1) h.cl h.ha h.hn h.htk h.hm)
theorem rc_isi {t : Value} {T : String} {r : Bool} (h : TyD K d t) (hk : PySem.W.kitOne K t (.type T) = some r) : RC K (rIsi K) [d, .val (.ty T)] (.p (B r)) := fun G H vs Q e hv q => by
  cases hv with
  | cons h1 t => cases t with
    | cons h2 t => cases t; cases h2; exact ⟨_, _, _, _, r, rfl, .ty T, h.ok e h1, hk, q _ G H (.refl e) (.val _)⟩
theorem rc_isiC {t : Value} {C : Addr} {r : Bool} (h : TyD K d t) (hk : PySem.W.kitOne K t (.ref C) = some r) : RC K (rIsi K) [d, .val (.ref C)] (.p (B r)) := fun G H vs Q e hv q => by
  cases hv with
  | cons h1 t => cases t with
    | cons h2 t => cases t; cases h2; exact ⟨_, _, _, _, r, rfl, .own C, h.ok e h1, hk, q _ G H (.refl e) (.val _)⟩
end
end HM

/-! Lay5 -/
namespace HM
open PySem L2

/-! ### the built-in names are the built-in ones -/
structure Bl (mg : Str → Option Value) : Prop where
  abs_ : mg "abs" = none
  all_ : mg "all" = none
  any_ : mg "any" = none
  bool_ : mg "bool" = none
  enum_ : mg "enumerate" = none
  int_ : mg "int" = none
  isi_ : mg "isinstance" = none
  len_ : mg "len" = none
  list_ : mg "list" = none
  max_ : mg "max" = none
  min_ : mg "min" = none
  range_ : mg "range" = none
  set_ : mg "set" = none
  sorted_ : mg "sorted" = none
  str_ : mg "str" = none
  sum_ : mg "sum" = none
  tuple_ : mg "tuple" = none
  zip_ : mg "zip" = none
  verr_ : mg "ValueError" = none

/-! ### a def that may be called -/
def Callee (P : Program) (w : World) (K : PySem.W.Frag) (mg : Str → Option Value) (base : Heap) (name : Str) (k : Nat) (ps : List Str) (sp : Sp) : Prop :=
  ∃ (f : Addr) (fd : FuncData), FnOk P w K mg base CX0 k f fd ps sp ∧ mg name = some (.ref f) ∧ PySem.W.keepIn K (.ref f) = true ∧ Binds K fd ps []
/-- where a def of the top stands -/
def FunAt (K : PySem.W.Frag) (mg : Str → Option Value) (name : Str) (st : Stmt) : Prop := ∃ (f : Addr) (fd : FuncData), Fun K name name st f fd ∧ mg name = some (.ref f)
section
variable {P : Program} {w : World} {K : PySem.W.Frag} {mg : Str → Option Value} {base : Heap}
theorem fnok_mk {name qual : Str} {st : Stmt} {N ps : List Str} {k : Nat} {Pr : List D → S → Prop} {f : Addr} {fd : FuncData} (F : Fun K name qual st f fd) (sc : FnScope N ps (defScope st))
    (len : ∀ as s, Pr as s → as.length = ps.length)
    (body : ∀ (cdv : Value) (A : Around) (outer : List PySem.Env) (s : Shared) (H : Hp) (E : XK) (as : List D) (r : S), Room k (A.deeper (PyProof.Rows.envOfC qual (defScope st) s.heap.objs.size f cdv)) → Pr as r →
      ∃ t, PSs (cxOf CX0 P w K mg base N qual (defScope st) f cdv A outer s H E).nox (defBody st) t ∧ SD K t (as.map (fun d => some (S.p d)) ++ List.replicate (N.length - as.length) none) (fun _ => r = .p dN) (fun s' => s' = r)) :
    FnOk P w K mg base CX0 (k + 1) f fd ps (spS K Pr) := by
  refine F.ok sc (fun vs H Q E h => ?_) (fun cdv A outer s H vs Q E hr h => ?_)
  · obtain ⟨G, ds, s, _, ha, hp, _⟩ := h
    rw [ha.len]
    exact len _ _ hp
  · obtain ⟨G, ds, r, hg, ha, hp, q⟩ := h
    obtain ⟨t, h1, h2⟩ := body cdv A outer s H E ds r hr hp
    exact ⟨t, h1, SD.run (P := Pr) hg ha q h2⟩
theorem callee_mk {name : Str} {st : Stmt} {N ps : List Str} {k : Nat} {Pr : List D → S → Prop} (F : FunAt K mg name st) (sc : FnScope N ps (defScope st))
    (hb : ∀ (kV doc pm : Value) (an : Option Addr) (cdv ct : Value) (us : List Value), us.length = ps.length → bindArgs (PySem.W.fnOf name name (defArgs st) (defBody st) (defScope st) .none kV doc pm an cdv ct) ⟨us, []⟩ = pure (ps.zip us))
    (len : ∀ as s, Pr as s → as.length = ps.length)
    (body : ∀ (f : Addr) (cdv : Value) (A : Around) (outer : List PySem.Env) (s : Shared) (H : Hp) (E : XK) (as : List D) (r : S), Room k (A.deeper (PyProof.Rows.envOfC name (defScope st) s.heap.objs.size f cdv)) → Pr as r →
      ∃ t, PSs (cxOf CX0 P w K mg base N name (defScope st) f cdv A outer s H E).nox (defBody st) t ∧ SD K t (as.map (fun d => some (S.p d)) ++ List.replicate (N.length - as.length) none) (fun _ => r = .p dN) (fun s' => s' = r)) :
    Callee P w K mg base name (k + 1) ps (spS K Pr) := by
  obtain ⟨f, fd, F, hm⟩ := F
  exact ⟨f, fd, fnok_mk F sc len (body f), hm, F.kp, F.binds hb⟩
theorem Callee.mono {name : Str} {j k : Nat} {ps : List Str} {sp : Sp} (C : Callee P w K mg base name j ps sp) (h : j ≤ k) : Callee P w K mg base name k ps sp :=
  let ⟨f, fd, F, r⟩ := C
  ⟨f, fd, F.mono h, r⟩
end
section
variable {X : Cx} {a b c e o : Expr} {es : List Expr} {ta tb tc te to : TE} {t : TA} {p pos : Pos}
theorem pe_fn {name : Str} {k : Nat} {ps : List Str} {sp : Sp} (C : Callee X.prog X.w X.K X.mg X.base name k ps sp) (hr : Room k X.A) (hg : Gl X name) (ha : PA X (e :: es) t) (hdb : (name == ("__debug__" : Str)) = false := by decide)
    (he : starEach (e :: es) X.env = (false, eval e X.env) :: starEach es X.env := by rfl) (hpl : (backTo pos (starEach es X.env)).any (·.1) = false := by rfl) :
    PE X (.Call (.Name name p) (e :: es) [] pos) (tCall sp [] E0 t) := by
  obtain ⟨f, fd, F, hm, hk, hb⟩ := C
  exact pe_call F hr hg hm hk hb .nil pass0 ha hdb he hpl
/-! ### operators that serve several kinds -/
def CM (i j : Int) : Prop := IntMulOk i j
def rAdd : R2 := fun x y H Q => (rI0 fun i j => .int (i + j)) x y H Q ∨ rCat x y H Q
def rMul : R2 := fun x y H Q => (rI CM fun i j => .int (i * j)) x y H Q ∨ rRep x y H Q
def rEqA (K : PySem.W.Frag) : R2 := fun x y H Q => rEq x y H Q ∨ rEqD K x y H Q
def rNeA (K : PySem.W.Frag) : R2 := fun x y H Q => rNe x y H Q ∨ rNeD K x y H Q
def rIxA (K : PySem.W.Frag) : R2 := fun x y H Q => rIxL K x y H Q ∨ rIxT K x y H Q
theorem pAdd (ha : PE X a ta) (hb : PE X b tb) : PE X (.BinOp a .Add b pos) (tOp rAdd ta tb) := pe_op (op_add.or op_cat) ha hb
theorem pSub (ha : PE X a ta) (hb : PE X b tb) : PE X (.BinOp a .Sub b pos) (tOp (rI0 fun i j => .int (i - j)) ta tb) := pe_op op_sub ha hb
theorem pMul (ha : PE X a ta) (hb : PE X b tb) : PE X (.BinOp a .Mult b pos) (tOp rMul ta tb) := pe_op (OpR.or (opI fun _ _ _ _ _ _ _ hc q => PyProof.Rows.mul_int q hc) op_rep) ha hb
theorem pDiv (ha : PE X a ta) (hb : PE X b tb) : PE X (.BinOp a .FloorDiv b pos) (tOp (rI CDivW fun i j => .int (i / j)) ta tb) := pe_op op_fdivW ha hb
theorem pMod (ha : PE X a ta) (hb : PE X b tb) : PE X (.BinOp a .Mod b pos) (tOp (rI (fun _ j => 0 < j) fun i j => .int (i % j)) ta tb) := pe_op op_mod ha hb
theorem pPow (ha : PE X a ta) (hb : PE X b tb) : PE X (.BinOp a .Pow b pos) (tOp (rI CPow fun i j => .int (i ^ j.toNat)) ta tb) := pe_op op_pow ha hb
theorem pNeg (ha : PE X a ta) : PE X (.UnaryOp .USub a pos) (tUn (rU fun i => .int (-i)) ta) := pe_un un_neg ha
theorem pLt (ha : PE X a ta) (hb : PE X b tb) : PE X (.Compare a [.Lt] [b] pos) (tOp (rI0 fun i j => .bl (decide (i < j))) ta tb) := pe_cmpR op_lt ha hb (nomark _)
theorem pLe (ha : PE X a ta) (hb : PE X b tb) : PE X (.Compare a [.LtE] [b] pos) (tOp (rI0 fun i j => .bl (decide (i ≤ j))) ta tb) := pe_cmpR op_le ha hb (nomark _)
theorem pGt (ha : PE X a ta) (hb : PE X b tb) : PE X (.Compare a [.Gt] [b] pos) (tOp (rI0 fun i j => .bl (decide (j < i))) ta tb) := pe_cmpR op_gt ha hb (nomark _)
theorem pGe (ha : PE X a ta) (hb : PE X b tb) : PE X (.Compare a [.GtE] [b] pos) (tOp (rI0 fun i j => .bl (decide (j ≤ i))) ta tb) := pe_cmpR op_ge ha hb (nomark _)
theorem qLt (ha : PE X a ta) (hb : PE X b tb) : PT X (.Compare a [.Lt] [b] pos) (tTest (tOp (rI0 fun i j => .bl (decide (i < j))) ta tb)) := pt_cmpR op_lt ha hb (nomark _)
theorem qLe (ha : PE X a ta) (hb : PE X b tb) : PT X (.Compare a [.LtE] [b] pos) (tTest (tOp (rI0 fun i j => .bl (decide (i ≤ j))) ta tb)) := pt_cmpR op_le ha hb (nomark _)
theorem qGt (ha : PE X a ta) (hb : PE X b tb) : PT X (.Compare a [.Gt] [b] pos) (tTest (tOp (rI0 fun i j => .bl (decide (j < i))) ta tb)) := pt_cmpR op_gt ha hb (nomark _)
theorem qGe (ha : PE X a ta) (hb : PE X b tb) : PT X (.Compare a [.GtE] [b] pos) (tTest (tOp (rI0 fun i j => .bl (decide (j ≤ i))) ta tb)) := pt_cmpR op_ge ha hb (nomark _)
variable {K : PySem.W.Frag}
theorem pIx (ha : PE X a ta) (hb : PE X b tb) (hs : PlainIx b := by exact fun _ _ => rfl) (hK : X.K = K := by rfl) : PE X (.Subscript a b pos) (tOp (rIxA K) ta tb) := hK ▸ pe_ix (ix_list.or ix_tup) ha hb hs
theorem pEq {k : Nat} (hr : Room k X.A) (ha : PE X a ta) (hb : PE X b tb) (hK : X.K = K := by rfl) : PE X (.Compare a [.Eq] [b] pos) (tOp (rEqA K) ta tb) := hK ▸ pe_cmpR (op_eq.or (op_eqD hr.units)) ha hb (nomark _)
theorem pNe {k : Nat} (hr : Room k X.A) (ha : PE X a ta) (hb : PE X b tb) (hK : X.K = K := by rfl) : PE X (.Compare a [.NotEq] [b] pos) (tOp (rNeA K) ta tb) := hK ▸ pe_cmpR (op_ne.or (op_neD hr.units)) ha hb (nomark _)
theorem qEq {k : Nat} (hr : Room k X.A) (ha : PE X a ta) (hb : PE X b tb) (hK : X.K = K := by rfl) : PT X (.Compare a [.Eq] [b] pos) (tTest (tOp (rEqA K) ta tb)) := hK ▸ pt_cmpR (op_eq.or (op_eqD hr.units)) ha hb (nomark _)
theorem qNe {k : Nat} (hr : Room k X.A) (ha : PE X a ta) (hb : PE X b tb) (hK : X.K = K := by rfl) : PT X (.Compare a [.NotEq] [b] pos) (tTest (tOp (rNeA K) ta tb)) := hK ▸ pt_cmpR (op_ne.or (op_neD hr.units)) ha hb (nomark _)
theorem kLen (hK : X.K = K := by rfl) : CallR X (.builtin "len") (fun xs H Q => ∃ p ys, xs = [.ref p] ∧ (SqL K H p ys ∨ SqT K H p ys) ∧ Q (.int ys.length) H) := hK ▸ call_len_seq
theorem kAll (hc : X.calm = true) (hK : X.K = K := by rfl) : CallR X (.builtin "all") (rAll K) := hK ▸ cr_all hc
theorem kAny (hc : X.calm = true) (hK : X.K = K := by rfl) : CallR X (.builtin "any") (rAny K) := hK ▸ cr_any hc
theorem kSum (hc : X.calm = true) (hK : X.K = K := by rfl) : CallR X (.builtin "sum") (rSum K) := hK ▸ cr_sum hc
theorem kMax (hc : X.calm = true) (hK : X.K = K := by rfl) : CallR X (.builtin "max") (rMax K) := hK ▸ cr_max hc
theorem kMin (hc : X.calm = true) (hK : X.K = K := by rfl) : CallR X (.builtin "min") (rMin K) := hK ▸ cr_min hc
theorem kSorted (hK : X.K = K := by rfl) : CallR X (.builtin "sorted") (rSorted K) := hK ▸ cr_sorted
theorem kIsi (hK : X.K = K := by rfl) : CallR X (.builtin "isinstance") (rIsi K) := hK ▸ call_isi
theorem kList (hK : X.K = K := by rfl) : CallR X (.type "list") (fun xs H Q => ∃ p ys, xs = [.ref p] ∧ (SqL K H p ys ∨ SqT K H p ys) ∧ ∀ l, H l = none → Q (.ref l) (upd H l (.lst ys))) := hK ▸ call_list_of
theorem kIndex (hu : X.A.units + 65 < cLine) (hK : X.K = K := by rfl) : MtR X "list.index" (rIndexD K) := hK ▸ mt_indexD hu
theorem kSl (hK : X.K = K := by rfl) : SlR X (rSlL K) := hK ▸ sl_list
theorem pRev {k : Nat} {p1 p2 p3 : Pos} (he : PE X e te) (hK : X.K = K := by rfl) : PE X (.Subscript e (.Slice none none (some (.UnaryOp .USub (.Constant (.int 1) k p1) p2)) p3) pos) (tRevL K te) := hK ▸ pe_revL he
theorem pFld {f : Str} (he : PE X e te) (hb : attributeBase e f X.env (eval e X.env) = eval e X.env) (hK : X.K = K := by rfl) : PE X (.Attribute e f pos) (tFld K te f) := hK ▸ pe_fld he hb
theorem iL {tg : Expr} (he : PE X e te) (hK : X.K = K := by rfl) : PI X tg e (iList K te) := hK ▸ pi_list he
theorem iT {tg : Expr} (he : PE X e te) (hK : X.K = K := by rfl) : PI X tg e (iTup K te) := hK ▸ pi_tup he
theorem gT {es : List Expr} {k : Nat} {t : TGs} {n : Nat} (hc : X.calm = true) (h : PGs X es t) (hn : (assignEach es X.env).length = n := by rfl) (hst : (assignEach es X.env).findIdx? (·.1) = none := by rfl) (hK : X.K = K := by rfl) : PG X (.Tuple es k pos) (gTup K n t) := hK ▸ pg_tup hc h hn hst
theorem kBM {T : String} {r : V → List V → Hp → VK → Prop} (h : PE X e (tBM X.K T r to t)) (hK : X.K = K := by rfl) : PE X e (tBM K T r to t) := hK ▸ h
theorem pIsTrue (ha : PE X a ta) (hb : PE X b tb) : PE X (.Compare a [.Is] [b] pos) (tOp rIsB ta tb) := pe_cmpR op_isBl ha hb (nomark _)
theorem qIsTrue (ha : PE X a ta) (hb : PE X b tb) : PT X (.Compare a [.Is] [b] pos) (tTest (tOp rIsB ta tb)) := pt_cmpR op_isBl ha hb (nomark _)
theorem qNotTrue (ha : PE X a ta) (hb : PE X b tb) : PT X (.Compare a [.IsNot] [b] pos) (tTest (tOp rNotB ta tb)) := pt_cmpR op_notBl ha hb (nomark _)
end

/-! ### their evaluation -/
section
variable {K : PySem.W.Frag} {ds : Env} {ta tb te tl tc : TE} {tt uu : TT} {a b d : D} {s : S} {i j : Int} {xs ys : List D}
theorem rd_orL {r r' : R2} (h : RD K r a b s) : RD K (fun x y H Q => r x y H Q ∨ r' x y H Q) a b s := fun G H x y Q e hx hy q => .inl (h G H x y Q e hx hy q)
theorem rd_orR {r r' : R2} (h : RD K r' a b s) : RD K (fun x y H Q => r x y H Q ∨ r' x y H Q) a b s := fun G H x y Q e hx hy q => .inr (h G H x y Q e hx hy q)
theorem ev_add (ha : EvS K ta ds (.p (I i))) (hb : EvS K tb ds (.p (I j))) : EvS K (tOp rAdd ta tb) ds (.p (I (i + j))) := ev_op ha hb (rd_orL rd_I0)
theorem ev_cat (ha : EvS K ta ds (.p (.lst xs))) (hb : EvS K tb ds (.p (.lst ys))) (hl : Hyp (xs.length + ys.length ≤ 1000)) : EvS K (tOp rAdd ta tb) ds (.o (xs ++ ys)) := ev_op ha hb (rd_orR (rd_cat hl))
theorem ev_sub (ha : EvS K ta ds (.p (I i))) (hb : EvS K tb ds (.p (I j))) : EvS K (tOp (rI0 fun i j => .int (i - j)) ta tb) ds (.p (I (i - j))) := ev_op ha hb rd_I0
theorem ev_mul (ha : EvS K ta ds (.p (I i))) (hb : EvS K tb ds (.p (I j))) (hc : Hyp (CM i j)) : EvS K (tOp rMul ta tb) ds (.p (I (i * j))) := ev_op ha hb (rd_orL (rd_I hc))
theorem ev_rep (ha : EvS K ta ds (.p (.lst xs))) (hb : EvS K tb ds (.p (I i))) (h : Hyp (0 ≤ i ∧ i ≤ 1000 ∧ xs.length ≤ 1000)) : EvS K (tOp rMul ta tb) ds (.o (List.replicate i.toNat xs).flatten) := ev_op ha hb (rd_orR (rd_rep h.1 h.2.1 h.2.2))
theorem ev_div (ha : EvS K ta ds (.p (I i))) (hb : EvS K tb ds (.p (I j))) (hc : Hyp (CDivW i j)) : EvS K (tOp (rI CDivW fun i j => .int (i / j)) ta tb) ds (.p (I (i / j))) := ev_op ha hb (rd_I hc)
theorem ev_mod (ha : EvS K ta ds (.p (I i))) (hb : EvS K tb ds (.p (I j))) (hc : Hyp (0 < j)) : EvS K (tOp (rI (fun _ j => 0 < j) fun i j => .int (i % j)) ta tb) ds (.p (I (i % j))) := ev_op ha hb (rd_I hc)
theorem ev_pow (ha : EvS K ta ds (.p (I i))) (hb : EvS K tb ds (.p (I j))) (hc : Hyp (CPow i j)) : EvS K (tOp (rI CPow fun i j => .int (i ^ j.toNat)) ta tb) ds (.p (I (i ^ j.toNat))) := ev_op ha hb (rd_I hc)
theorem ev_neg (ha : EvS K ta ds (.p (I i))) : EvS K (tUn (rU fun i => .int (-i)) ta) ds (.p (I (-i))) := ev_un ha ru_neg
theorem ev_eqI (ha : EvS K ta ds (.p (I i))) (hb : EvS K tb ds (.p (I j))) : EvS K (tOp (rEqA K) ta tb) ds (.p (B (decide (i = j)))) := ev_op ha hb (rd_orL rd_eqI)
theorem ev_neI (ha : EvS K ta ds (.p (I i))) (hb : EvS K tb ds (.p (I j))) : EvS K (tOp (rNeA K) ta tb) ds (.p (B (!decide (i = j)))) := ev_op ha hb (rd_orL rd_neI)
theorem ev_eqB {i j : Bool} (ha : EvS K ta ds (.p (B i))) (hb : EvS K tb ds (.p (B j))) : EvS K (tOp (rEqA K) ta tb) ds (.p (B (decide (i = j)))) := ev_op ha hb (rd_orL rd_eqB)
theorem ev_neB {i j : Bool} (ha : EvS K ta ds (.p (B i))) (hb : EvS K tb ds (.p (B j))) : EvS K (tOp (rNeA K) ta tb) ds (.p (B (!decide (i = j)))) := ev_op ha hb (rd_orL rd_neB)
theorem ev_eqD (n : Nat) (ha : EvS K ta ds (.p a)) (hb : EvS K tb ds (.p b)) (h : Hyp (pl n a = true ∧ pl n b = true ∧ n ≤ 64)) : EvS K (tOp (rEqA K) ta tb) ds (.p (B (eqD a b))) := ev_op ha hb (rd_orR (rd_eqD n h.1 h.2.1 h.2.2))
theorem ev_neD (n : Nat) (ha : EvS K ta ds (.p a)) (hb : EvS K tb ds (.p b)) (h : Hyp (pl n a = true ∧ pl n b = true ∧ n ≤ 64)) : EvS K (tOp (rNeA K) ta tb) ds (.p (B (!eqD a b))) := ev_op ha hb (rd_orR (rd_neD n h.1 h.2.1 h.2.2))
theorem ev_lt (ha : EvS K ta ds (.p (I i))) (hb : EvS K tb ds (.p (I j))) : EvS K (tOp (rI0 fun i j => .bl (decide (i < j))) ta tb) ds (.p (B (decide (i < j)))) := ev_op ha hb rd_I0
theorem ev_le (ha : EvS K ta ds (.p (I i))) (hb : EvS K tb ds (.p (I j))) : EvS K (tOp (rI0 fun i j => .bl (decide (i ≤ j))) ta tb) ds (.p (B (decide (i ≤ j)))) := ev_op ha hb rd_I0
theorem ev_gt (ha : EvS K ta ds (.p (I i))) (hb : EvS K tb ds (.p (I j))) : EvS K (tOp (rI0 fun i j => .bl (decide (j < i))) ta tb) ds (.p (B (decide (j < i)))) := ev_op ha hb rd_I0
theorem ev_ge (ha : EvS K ta ds (.p (I i))) (hb : EvS K tb ds (.p (I j))) : EvS K (tOp (rI0 fun i j => .bl (decide (j ≤ i))) ta tb) ds (.p (B (decide (j ≤ i)))) := ev_op ha hb rd_I0
theorem ev_isT {i j : Bool} (ha : EvS K ta ds (.p (B i))) (hb : EvS K tb ds (.p (B j))) : EvS K (tOp rIsB ta tb) ds (.p (B (decide (i = j)))) := ev_op ha hb rd_isB
theorem ev_notT {i j : Bool} (ha : EvS K ta ds (.p (B i))) (hb : EvS K tb ds (.p (B j))) : EvS K (tOp rNotB ta tb) ds (.p (B (!decide (i = j)))) := ev_op ha hb rd_notB
theorem ev_ixL (ha : EvS K ta ds (.p (.lst xs))) (hb : EvS K tb ds (.p (I i))) (h : Hyp (atI xs i = some d)) : EvS K (tOp (rIxA K) ta tb) ds (.p d) := ev_op ha hb (rd_orL (rd_ixL h))
theorem ev_ixF (ha : EvS K ta ds (.p (.fz xs))) (hb : EvS K tb ds (.p (I i))) (h : Hyp (atI xs i = some d)) : EvS K (tOp (rIxA K) ta tb) ds (.p d) := ev_op ha hb (rd_orL (rd_ixF h))
theorem ev_ixT (ha : EvS K ta ds (.p (.tup xs))) (hb : EvS K tb ds (.p (I i))) (h : Hyp (atI xs i = some d)) : EvS K (tOp (rIxA K) ta tb) ds (.p d) := ev_op ha hb (rd_orR (rd_ixT h))
/-- a tuple by a written place -/
theorem ev_t0 (ha : EvS K ta ds (.p (.tup (a :: xs)))) : EvS K (tOp (rIxA K) ta (tC (.int 0))) ds (.p a) := ev_ixT ha ev_c (atI_nat (j := 0) rfl)
theorem ev_t1 (ha : EvS K ta ds (.p (.tup (a :: b :: xs)))) : EvS K (tOp (rIxA K) ta (tC (.int 1))) ds (.p b) := ev_ixT ha ev_c (atI_nat (j := 1) rfl)
theorem ev_abs {ta : TA} (h : EvA K ta ds [I i]) : EvS K (tCB (fun xs H Q => ∃ i, xs = [.int i] ∧ Q (.int (if i < 0 then -i else i)) H) ta) ds (.p (I (i.natAbs : Int))) := by
  have e : (i.natAbs : Int) = if i < 0 then -i else i := by split <;> omega
  rw [e]
  exact ev_cb h rc_abs
theorem ev_max2 {ta : TA} (h : EvA K ta ds [I i, I j]) : EvS K (tCB (fun xs H Q => ∃ i j, xs = [.int i, .int j] ∧ Q (.int (if j > i then j else i)) H) ta) ds (.p (I (max i j))) := by
  have e : max i j = if j > i then j else i := by split <;> omega
  rw [e]
  exact ev_cb h rc_max2
theorem ev_lenL {ta : TA} (h : EvA K ta ds [.lst xs]) : EvS K (tCB (fun vs H Q => ∃ p ys, vs = [.ref p] ∧ (SqL K H p ys ∨ SqT K H p ys) ∧ Q (.int ys.length) H) ta) ds (.p (I xs.length)) := ev_cb h rc_lenL
theorem ev_lenF {ta : TA} (h : EvA K ta ds [.fz xs]) : EvS K (tCB (fun vs H Q => ∃ p ys, vs = [.ref p] ∧ (SqL K H p ys ∨ SqT K H p ys) ∧ Q (.int ys.length) H) ta) ds (.p (I xs.length)) := ev_cb h rc_lenF
theorem ev_lenT {ta : TA} (h : EvA K ta ds [.tup xs]) : EvS K (tCB (fun vs H Q => ∃ p ys, vs = [.ref p] ∧ (SqL K H p ys ∨ SqT K H p ys) ∧ Q (.int ys.length) H) ta) ds (.p (I xs.length)) := ev_cb h rc_lenT
theorem ev_list {ta : TA} (h : EvA K ta ds [.lst xs]) : EvS K (tCB (fun vs H Q => ∃ p ys, vs = [.ref p] ∧ (SqL K H p ys ∨ SqT K H p ys) ∧ ∀ l, H l = none → Q (.ref l) (upd H l (.lst ys))) ta) ds (.o xs) := ev_cb h rc_list
theorem ev_sum {ta : TA} {ns : List Int} (h : EvA K ta ds [.lst (ns.map I)]) : EvS K (tCB (rSum K) ta) ds (.p (I ns.sum)) := ev_cb h rc_sum
theorem ev_all {ta : TA} {bs : List Bool} (h : EvA K ta ds [.lst (bs.map B)]) : EvS K (tCB (rAll K) ta) ds (.p (B (bs.all id))) := ev_cb h rc_all
theorem ev_any {ta : TA} {bs : List Bool} (h : EvA K ta ds [.lst (bs.map B)]) : EvS K (tCB (rAny K) ta) ds (.p (B (bs.any id))) := ev_cb h rc_any
theorem ev_isi {ta : TA} {t : Value} {T : String} {r : Bool} (h : EvA K ta ds [d, .val (.ty T)]) (ht : Hyp (TyD K d t ∧ PySem.W.kitOne K t (.type T) = some r)) : EvS K (tCB (rIsi K) ta) ds (.p (B r)) := ev_cb h (rc_isi ht.1 ht.2)
theorem ev_isiC {ta : TA} {t : Value} {C : Addr} {r : Bool} (h : EvA K ta ds [d, .val (.ref C)]) (ht : Hyp (TyD K d t ∧ PySem.W.kitOne K t (.ref C) = some r)) : EvS K (tCB (rIsi K) ta) ds (.p (B r)) := ev_cb h (rc_isiC ht.1 ht.2)
end

/-! ### whole numbers within their line -/
def Bt (n : Nat) (i : Int) : Prop := i.natAbs < 2 ^ n
theorem CM.of {i j : Int} {a b : Nat} (ha : Bt a i) (hb : Bt b j) (h : a + b ≤ 100000000) : CM i j := by
  have bits : ∀ (x : Int) (n : Nat), Bt n x → Builtin.Int.intBits x ≤ n := fun x n hx => by
    unfold Builtin.Int.intBits
    split
    · omega
    · rename_i h0
      have hx0 : x.natAbs ≠ 0 := by
        intro z
        apply h0
        rw [Int.natAbs_eq_zero] at z
        simp [z]
      have h2 := (Nat.log2_lt hx0).mpr hx
      omega
  have h1 := bits i a ha
  have h2 := bits j b hb
  have e : bitsLine = 134217728 := by decide
  unfold CM IntMulOk
  intro z
  rw [Bool.and_eq_true] at z
  have z2 := z.2
  unfold Builtin.Int.intTooBig at z2
  have z3 := of_decide_eq_true z2
  rw [e] at z3
  omega
theorem Bt.div {i j : Int} {b : Nat} (h : 0 < j) (hb : Bt b j) (h0 : 0 < b) (h9 : b ≤ 9000) : CDivW i j := wide_div h hb h0 h9
theorem Bt.mul {i j : Int} {a b : Nat} (ha : Bt a i) (hb : Bt b j) : Bt (a + b) (i * j) := wide_lt ha hb
theorem Bt.mono {i : Int} {a b : Nat} (h : Bt a i) (hab : a ≤ b) : Bt b i := Nat.lt_of_lt_of_le h (Nat.pow_le_pow_right (by decide) hab)
theorem Bt.add {i j : Int} {a : Nat} (ha : Bt a i) (hb : Bt a j) : Bt (a + 1) (i + j) := by
  unfold Bt at *
  rw [Nat.pow_succ]
  omega
theorem Bt.sub {i j : Int} {a : Nat} (ha : Bt a i) (hb : Bt a j) : Bt (a + 1) (i - j) := by
  unfold Bt at *
  rw [Nat.pow_succ]
  omega
theorem Bt.neg {i : Int} {a : Nat} (ha : Bt a i) : Bt a (-i) := by
  unfold Bt at *
  omega
theorem Bt.abs {i : Int} {a : Nat} (ha : Bt a i) : Bt a (i.natAbs : Int) := by
  unfold Bt at *
  omega
end HM
namespace HM
open PySem L2
theorem bt_abs : bootBuiltins "abs" = some (.builtin "abs") := PyProof.Rows.boot_abs
theorem bt_all : bootBuiltins "all" = some (.builtin "all") := PyProof.Rows.boot_all
theorem bt_any : bootBuiltins "any" = some (.builtin "any") := PyProof.Rows.boot_any
theorem bt_isi : bootBuiltins "isinstance" = some (.builtin "isinstance") := PyProof.Rows.boot_isinstance
theorem bt_len : bootBuiltins "len" = some (.builtin "len") := PySem.boot_len
theorem bt_max : bootBuiltins "max" = some (.builtin "max") := PyProof.Rows.boot_max
theorem bt_min : bootBuiltins "min" = some (.builtin "min") := PyProof.Rows.boot_min
theorem bt_sum : bootBuiltins "sum" = some (.builtin "sum") := PyProof.Rows.boot_sum
theorem bt_sorted : bootBuiltins "sorted" = some (.builtin "sorted") := PyProof.Rows.boot_sorted
theorem bt_int : bootBuiltins "int" = some (.type "int") := PyProof.Rows.boot_int
theorem bt_bool : bootBuiltins "bool" = some (.type "bool") := PyProof.Rows.boot_bool
theorem bt_tuple : bootBuiltins "tuple" = some (.type "tuple") := PyProof.Rows.boot_tuple
theorem bt_list : bootBuiltins "list" = some (.type "list") := PyProof.Rows.boot_list
theorem bt_set : bootBuiltins "set" = some (.type "set") := PyProof.Rows.boot_set
theorem bt_str : bootBuiltins "str" = some (.type "str") := PyProof.Rows.boot_str
theorem bt_verr : bootBuiltins "ValueError" = some (.type "ValueError") := by decide +kernel
end HM

/-! Lay6 -/
namespace HM
open PySem L2
abbrev fr (q : Rat) : D := .tup [I q.num, I (q.den : Int)]
abbrev hd (h : Int × Rat) : D := .tup [I h.1, fr h.2]
abbrev hs (l : List (Int × Rat)) : D := .lst (l.map hd)
/-! ### kinds of data -/
def kindOk : V → Bool
  | .non => true
  | .bl _ => true
  | .int _ => true
  | .str _ => true
  | _ => false
/-- built-in things, to the n-th level -/
def bi : Nat → D → Bool
  | _, .val v => kindOk v
  | 0, .lst _ => true
  | 0, .tup _ => true
  | n + 1, .lst xs => xs.all (bi n)
  | n + 1, .tup xs => xs.all (bi n)
  | _, .emp => true
  | _, _ => false
def numD : D → Bool
  | .val (.int _) => true
  | _ => false
def isT : D → Bool
  | .tup _ => true
  | _ => false
def isL : D → Bool
  | .lst _ => true
  | _ => false
def intB : D → Bool
  | .val (.int _) => true
  | .val (.bl _) => true
  | _ => false
def boolB : D → Bool
  | .val (.bl _) => true
  | _ => false
def fracD : D → Bool
  | .tup [.val (.int a), .val (.int b)] => decide (0 < b) && decide ((Int.gcd a b : Int) = 1)
  | _ => false
def partD : D → Bool
  | .tup [.val (.int a), .val (.int b)] => (decide (0 < b) && decide ((Int.gcd a b : Int) = 1)) && (decide (0 ≤ a) && decide (a < b))
  | _ => false
def handD : D → Bool
  | .tup [x, y] => numD x && partD y
  | _ => false
theorem bi_down {n : Nat} {d : D} (h : bi n d = true) : bi 0 d = true := by
  cases d <;> cases n <;> first | exact h | rfl
section
variable {K : PySem.W.Frag}
theorem k_NoneType_int : kitB "NoneType" "int" = some false := by decide +kernel
theorem k_NoneType_bool : kitB "NoneType" "bool" = some false := by decide +kernel
theorem k_NoneType_tuple : kitB "NoneType" "tuple" = some false := by decide +kernel
theorem k_NoneType_list : kitB "NoneType" "list" = some false := by decide +kernel
theorem k_bool_int : kitB "bool" "int" = some true := by decide +kernel
theorem k_bool_bool : kitB "bool" "bool" = some true := by decide +kernel
theorem k_bool_tuple : kitB "bool" "tuple" = some false := by decide +kernel
theorem k_bool_list : kitB "bool" "list" = some false := by decide +kernel
theorem k_int_int : kitB "int" "int" = some true := by decide +kernel
theorem k_int_bool : kitB "int" "bool" = some false := by decide +kernel
theorem k_int_tuple : kitB "int" "tuple" = some false := by decide +kernel
theorem k_int_list : kitB "int" "list" = some false := by decide +kernel
theorem k_str_int : kitB "str" "int" = some false := by decide +kernel
theorem k_str_bool : kitB "str" "bool" = some false := by decide +kernel
theorem k_str_tuple : kitB "str" "tuple" = some false := by decide +kernel
theorem k_str_list : kitB "str" "list" = some false := by decide +kernel
theorem k_list_int : kitB "list" "int" = some false := by decide +kernel
theorem k_list_bool : kitB "list" "bool" = some false := by decide +kernel
theorem k_list_tuple : kitB "list" "tuple" = some false := by decide +kernel
theorem k_list_list : kitB "list" "list" = some true := by decide +kernel
theorem k_tuple_int : kitB "tuple" "int" = some false := by decide +kernel
theorem k_tuple_bool : kitB "tuple" "bool" = some false := by decide +kernel
theorem k_tuple_tuple : kitB "tuple" "tuple" = some true := by decide +kernel
theorem k_tuple_list : kitB "tuple" "list" = some false := by decide +kernel
theorem k_dict_int : kitB "dict" "int" = some false := by decide +kernel
theorem k_dict_bool : kitB "dict" "bool" = some false := by decide +kernel
theorem k_dict_tuple : kitB "dict" "tuple" = some false := by decide +kernel
theorem k_dict_list : kitB "dict" "list" = some false := by decide +kernel
theorem ty_bi {d : D} (h : bi 0 d = true) : ∃ t, TyD K d t ∧ PySem.W.kitOne K t (.type "int") = some (intB d) ∧ PySem.W.kitOne K t (.type "bool") = some (boolB d) ∧ PySem.W.kitOne K t (.type "tuple") = some (isT d) ∧ PySem.W.kitOne K t (.type "list") = some (isL d) := by
  cases d with
  | val v =>
    cases v with
    | non => exact ⟨_, .non, kit_ty k_NoneType_int, kit_ty k_NoneType_bool, kit_ty k_NoneType_tuple, kit_ty k_NoneType_list⟩
    | bl b => exact ⟨_, .bl b, kit_ty k_bool_int, kit_ty k_bool_bool, kit_ty k_bool_tuple, kit_ty k_bool_list⟩
    | int b => exact ⟨_, .int b, kit_ty k_int_int, kit_ty k_int_bool, kit_ty k_int_tuple, kit_ty k_int_list⟩
    | str b => exact ⟨_, .str b, kit_ty k_str_int, kit_ty k_str_bool, kit_ty k_str_tuple, kit_ty k_str_list⟩
    | byt b => cases h
    | flt b => cases h
    | ref b => cases h
    | ty b => cases h
  | lst xs => exact ⟨_, .lst xs, kit_ty k_list_int, kit_ty k_list_bool, kit_ty k_list_tuple, kit_ty k_list_list⟩
  | tup xs => exact ⟨_, .tup xs, kit_ty k_tuple_int, kit_ty k_tuple_bool, kit_ty k_tuple_tuple, kit_ty k_tuple_list⟩
  | emp => exact ⟨_, .emp, kit_ty k_dict_int, kit_ty k_dict_bool, kit_ty k_dict_tuple, kit_ty k_dict_list⟩
  | fz xs => cases h
  | ins C fs => cases h
variable {ds : Env} {ta tb te : TE}
theorem ev_allM {α : Type} {ta : TA} {l : List α} {f : α → Bool} (h : EvA K ta ds [.lst (l.map fun x => B (f x))]) : EvS K (tCB (rAll K) ta) ds (.p (B (l.all f))) := by
  have e : (l.map fun x => B (f x)) = (l.map f).map B := by rw [List.map_map]; rfl
  rw [e] at h
  have := ev_all h
  rw [List.all_map] at this
  exact this
theorem ev_isInt {ta : TA} {d : D} (h : EvA K ta ds [d, .val (.ty "int")]) (hb : Hyp (bi 0 d = true)) : EvS K (tCB (rIsi K) ta) ds (.p (B (intB d))) := let ⟨_, a, b, _⟩ := ty_bi (K := K) hb; ev_isi h ⟨a, b⟩
theorem ev_isBool {ta : TA} {d : D} (h : EvA K ta ds [d, .val (.ty "bool")]) (hb : Hyp (bi 0 d = true)) : EvS K (tCB (rIsi K) ta) ds (.p (B (boolB d))) := let ⟨_, a, _, b, _⟩ := ty_bi (K := K) hb; ev_isi h ⟨a, b⟩
theorem ev_isTuple {ta : TA} {d : D} (h : EvA K ta ds [d, .val (.ty "tuple")]) (hb : Hyp (bi 0 d = true)) : EvS K (tCB (rIsi K) ta) ds (.p (B (isT d))) := let ⟨_, a, _, _, b, _⟩ := ty_bi (K := K) hb; ev_isi h ⟨a, b⟩
theorem ev_isList {ta : TA} {d : D} (h : EvA K ta ds [d, .val (.ty "list")]) (hb : Hyp (bi 0 d = true)) : EvS K (tCB (rIsi K) ta) ds (.p (B (isL d))) := let ⟨_, a, _, _, _, b⟩ := ty_bi (K := K) hb; ev_isi h ⟨a, b⟩
end
theorem numD_eq {d : D} (h : bi 0 d = true) : (intB d && !boolB d) = numD d := by
  cases d with
  | val v => cases v <;> first | rfl | cases h
  | _ => rfl
theorem numD_int {d : D} (h : numD d = true) : ∃ i, d = I i := by
  cases d with
  | val v => cases v <;> first | exact ⟨_, rfl⟩ | cases h
  | _ => cases h
theorem fr_frac (q : Rat) : fracD (fr q) = true := by
  show (decide ((0 : Int) < (q.den : Int)) && decide ((Int.gcd q.num q.den : Int) = 1)) = true
  have h1 : (0 : Int) < q.den := by have := q.den_pos; omega
  have h2 : Int.gcd q.num q.den = 1 := q.reduced
  rw [decide_eq_true h1, h2]
  rfl
theorem fr_part {q : Rat} (h0 : 0 ≤ q) (h1 : q < 1) : partD (fr q) = true := by
  show ((decide ((0 : Int) < (q.den : Int)) && decide ((Int.gcd q.num q.den : Int) = 1)) && (decide (0 ≤ q.num) && decide (q.num < (q.den : Int)))) = true
  have e := fr_frac q
  have e' : (decide ((0 : Int) < (q.den : Int)) && decide ((Int.gcd q.num q.den : Int) = 1)) = true := e
  rw [e']
  have a : 0 ≤ q.num := Rat.num_nonneg.mpr h0
  have b : q.num < (q.den : Int) := by
    have := (Rat.lt_iff q 1).mp h1
    simpa using this
  rw [decide_eq_true a, decide_eq_true b]
  rfl
theorem hd_hand {h : Int × Rat} (h0 : 0 ≤ h.2) (h1 : h.2 < 1) : handD (hd h) = true := by
  show (numD (I h.1) && partD (fr h.2)) = true
  rw [fr_part h0 h1]
  rfl
theorem fr_pi (q : Rat) : pi 1 (fr q) = true := rfl
theorem fr_pl (q : Rat) : pl 1 (fr q) = true := rfl
theorem hd_pi (h : Int × Rat) : pi 2 (hd h) = true := rfl
theorem hs_pi (l : List (Int × Rat)) : pi 3 (hs l) = true := by
  show (l.map hd).all (pi 2) = true
  rw [List.all_map]
  exact List.all_eq_true.mpr fun _ _ => rfl
theorem hs_pl (l : List (Int × Rat)) : pl 3 (hs l) = true := pi_pl 3 _ (hs_pi l)
theorem fr_inj {p q : Rat} (h : fr p = fr q) : p = q := by
  have h' : I p.num = I q.num ∧ I (p.den : Int) = I (q.den : Int) := by
    injection h with h
    injection h with h1 h2
    injection h2 with h2 _
    exact ⟨h1, h2⟩
  obtain ⟨a, b⟩ := h'
  injection a with a
  injection a with a
  injection b with b
  injection b with b
  exact Rat.ext a (by omega)
theorem hd_inj {p q : Int × Rat} (h : hd p = hd q) : p = q := by
  injection h with h
  injection h with h1 h2
  injection h2 with h2 _
  injection h1 with h1
  injection h1 with h1
  exact Prod.ext h1 (fr_inj h2)
theorem map_hd_inj {l m : List (Int × Rat)} (h : l.map hd = m.map hd) : l = m := (List.map_inj_right fun _ _ z => hd_inj z).mp h
theorem eq_fr (p q : Rat) : eqD (fr p) (fr q) = decide (p = q) := by
  by_cases h : p = q
  · subst h; rw [eqD_refl (fr_pi p)]; simp
  · rw [eqD_not (fr_pi p) (fr_pi q) fun z => h (fr_inj z)]; simp [h]
theorem eq_hd (p q : Int × Rat) : eqD (hd p) (hd q) = decide (p = q) := by
  by_cases h : p = q
  · subst h; rw [eqD_refl (hd_pi p)]; simp
  · rw [eqD_not (hd_pi p) (hd_pi q) fun z => h (hd_inj z)]; simp [h]
theorem eq_hs (p q : List (Int × Rat)) : eqD (hs p) (hs q) = decide (p = q) := by
  by_cases h : p = q
  · subst h; rw [eqD_refl (hs_pi p)]; simp
  · rw [eqD_not (hs_pi p) (hs_pi q) fun z => h (map_hd_inj (by injection z))]; simp [h]
structure HOk (h : Int × Rat) : Prop where
  lo : 0 ≤ h.2
  hi : h.2 < 1
  bs : Bd 200 h.2
  br : Bt 100 h.1
structure HsOk (l : List (Int × Rat)) : Prop where
  len : l.length ≤ 63
  all : ∀ h ∈ l, HOk h
end HM

/-! Lay7 -/
namespace HM
open PySem L2

/-! ### instances made -/
section
variable {X : Cx} {e o : Expr} {es : List Expr} {te to : TE} {t : TA} {p pos : Pos}
def tMake0 (C : Addr) : TE := fun _ H Q => ∀ y dx, H y = none → H dx = none → dx ≠ y → Q (.ref y) (upd (upd H dx (.own y)) y (.ins C dx []))
/-- C(), the class has no __init__ of its own -/
theorem pe_makeO {x : Str} {C : Addr} (hmk : PySem.W.makesIn X.K C = true) (hi : PySem.W.findIn X.K (.ref C) "__init__" = some (some (.builtin "object.__init__"))) (kp : PySem.W.keepIn X.K (.ref C) = true)
    (hg : Gl X x) (hm : X.mg x = some (.ref C)) (hdb : (x == ("__debug__" : Str)) = false := by decide) : PE X (.Call (.Name x p) [] [] pos) (tMake0 C) := by
  refine ⟨fun pins s σ H Q I h => ?_⟩
  refine wpAny_Call_Name_kw (ld_glob I hg hm ?_ hdb)
  refine PySem.W.callWith_K0 I.kIn kp (wpAny_call (make_map0 I.kIn hmk hi (fun self => PySem.W.Looks.of_pure (PySem.W.oi_bind self)) ?_))
  have I2 := Inv.made (C := C) I
  have q := h (s.heap.objs.size + 1) s.heap.objs.size (I.hok.fresh (Nat.le_succ _)) (I.hok.fresh (Nat.le_refl _)) (Nat.ne_of_lt (Nat.lt_succ_self _))
  have Y := PySem.W.makes_of (M := model X.prog X.w) I.kIn hmk
  have g1 : ((s.heap.push PySem.W.emptyDict).push (PySem.W.instObj C s.heap.objs.size)).get? (s.heap.objs.size + 1) = some (PySem.W.instObj C s.heap.objs.size) :=
    by have := Heap.get?_push_size (o := PySem.W.instObj C s.heap.objs.size) (s.heap.push PySem.W.emptyDict) rfl; rwa [Heap.size_push] at this
  have t1 : PySem.W.Looks (model X.prog X.w) ((s.heap.push PySem.W.emptyDict).push (PySem.W.instObj C s.heap.objs.size)) (typeOf (.ref (s.heap.objs.size + 1))) (.ref C) := (PySem.W.Looks.ld g1).andThen .now
  have t2 : PySem.W.Looks (model X.prog X.w) ((s.heap.push PySem.W.emptyDict).push (PySem.W.instObj C s.heap.objs.size)) (isInstance (.ref (s.heap.objs.size + 1)) (.type "object")) true :=
    t1.andThen (Y.top.keeps fun b o e => Heap.get?_push_of_some _ (Heap.get?_push_of_some _ e))
  refine codeAny_call_builtin PySem.W.oi_plain PySem.W.entry_oi (@PySem.W.check_slot (model X.prog X.w) _ _ _ "object.__init__" "object" "__init__" _ [] [] _ PySem.W.oi_kind PySem.W.oi_split t2 (PySem.W.oi_args _) ?_)
  rw [PySem.W.oi_run]
  exact wpAny_pure ⟨rfl, ⟨V.ref _, _, I2, rfl, q⟩⟩
/-- a class of the text -/
structure ClsC (K : PySem.W.Frag) (mg : Str → Option Value) (name : Str) (C : Addr) : Prop where
  m : mg name = some (.ref C)
  it : InsT K C
  mks : PySem.W.makesIn K C = true
  kp : PySem.W.keepIn K (.ref C) = true
/-- its __init__, a method -/
def ICallee (P : Program) (w : World) (K : PySem.W.Frag) (mg : Str → Option Value) (base : Heap) (C : Addr) (k : Nat) (ps : List Str) (sp : Sp) : Prop :=
  ∃ (f : Addr) (fd : FuncData), FnOk P w K mg base CX0 k f fd ps sp ∧ Mk K C f ∧ Binds K fd ps []
def MCallee (P : Program) (w : World) (K : PySem.W.Frag) (mg : Str → Option Value) (base : Heap) (C : Addr) (m : Str) (k : Nat) (ps : List Str) (sp : Sp) : Prop :=
  ∃ (f : Addr) (fd : FuncData), FnOk P w K mg base CX0 k f fd ps sp ∧ Meth K C m f ∧ Binds K fd ps []
theorem pe_mk {x : Str} {C : Addr} {k : Nat} {ps : List Str} {sp : Sp} (M : ICallee X.prog X.w X.K X.mg X.base C k ps sp) (hr : Room (k + 1) X.A) (hg : Gl X x) (hm : X.mg x = some (.ref C)) (ha : PA X (e :: es) t) (hdb : (x == ("__debug__" : Str)) = false := by decide)
    (he : starEach (e :: es) X.env = (false, eval e X.env) :: starEach es X.env := by rfl) (hpl : (backTo pos (starEach es X.env)).any (·.1) = false := by rfl) : PE X (.Call (.Name x p) (e :: es) [] pos) (tMake C sp [] E0 t) := by
  obtain ⟨f, fd, F, M, hb⟩ := M
  exact pe_make M F hr hg hm hb .nil pass0 ha hdb he hpl
theorem pe_mt {C : Addr} {m : Str} {k : Nat} {ps : List Str} {sp : Sp} {apos : Pos} (M : MCallee X.prog X.w X.K X.mg X.base C m k ps sp) (c : Cls X.K C) (hr : Room k X.A) (ho : PE X o to) (ha : PA X (e :: es) t)
    (rule : ∀ (f : Addr) (fd : FuncData), Meth X.K C m f → FnOk X.prog X.w X.K X.mg X.base CX0 k f fd ps sp → Binds X.K fd ps [] → PE X (.Call (.Attribute o m apos) (e :: es) [] pos) (tMeth C m sp [] E0 to t)) :
    PE X (.Call (.Attribute o m apos) (e :: es) [] pos) (tMeth C m sp [] E0 to t) := by
  obtain ⟨f, fd, F, M, hb⟩ := M
  exact rule f fd M F hb
theorem PE.or {e : Expr} {t1 t2 : TE} (h1 : PE X e t1) (h2 : PE X e t2) : PE X e (fun σ H Q => t1 σ H Q ∨ t2 σ H Q) := ⟨fun pins s σ H Q I h => by
  rcases h with h | h
  · exact h1.run pins s σ H Q I h
  · exact h2.run pins s σ H Q I h⟩
end
end HM

/-! LaySet -/
namespace HM
open PySem PySem.Spec PyProof.Rows L2
/-! ### set(a list of ints) -/
abbrev nSet (w : World) : Obj := { cls := .type "set", dict := none, data := .set #[] 0 (.fresh 0 0 (!w.params.followText "set-order")) }
section
variable {P : Program} {w : World} {A : Around} {E : Value → Shared → Prop} {s : Shared}
theorem set_of_ints {l : Addr} {its : Array Value} (ns : List Int) {Q : Value → Shared → Prop} (hA : A.handled = none) (hl : s.heap.IsList l its) (hi : IntsAre its.toList ns) (hb : ns.length + 1 < scanBound)
    (h : ∀ (h2 : Heap) (tk c : Nat), SetR w h2 s.heap.objs.size (fun j => decide (j ∈ ns)) c → c ≤ ns.length → (∀ b o, s.heap.get? b = some o → h2.get? b = some o) → Q (.ref s.heap.objs.size) { s with heap := h2, toks := tk }) :
    wpAny (model P w) A (call (.type "set") [.ref l]) Q E s := by
  have hsz : its.size = ns.length := by have z := IntsAre.length hi; rw [Array.length_toList] at z; exact z
  obtain ⟨mc, mt, hmro⟩ := PySem.F.called_set.mro
  have hm2 := PySem.F.called_set.made
  have hs2 := PySem.F.called_set.sub
  refine wpAny_call (codeAny_of_tree (show wpAny _ _ (callAny (.type "set") _) _ _ _ from ?_))
  refine wpAny_pure ⟨Code.quiet_builtin _ (by decide +kernel), codeAny_builtin PySem.F.entry_type_call (by
    rw [Around.under_plain (weight_type_call_type "set" [.ref l] []) rfl]
    have w1 := PySem.F.called_set.notType
    have w2 := PySem.F.called_set.canCreate
    have w3 := PySem.F.typeCall_set_1 (.ref l)
    repeat (any_goals (first | assumption | wp_step))
    refine codeAny_mono (code_set_led1 (.ref l) (E := E) (Q₁ := fun ob s1 => ob = .ref s.heap.objs.size ∧ s1 = { s with heap := s.heap.push (nSet w) }) ⟨rfl, rfl⟩) fun r s1 hr => ?_
    rcases r with e | fl
    · exact hr
    rcases fl with ob | _ | _ | _
    case ok.next => exact hr.elim
    case ok.brk => exact hr.elim
    case ok.cont => exact hr.elim
    obtain ⟨rfl, rfl⟩ := hr
    have gS : (s.heap.push (nSet w)).get? s.heap.objs.size = some (nSet w) := Heap.get?_push_size _ rfl
    have tS : Shared.TypeIs { s with heap := s.heap.push (nSet w) } (.ref s.heap.objs.size) "set" := ⟨_, gS, rfl⟩
    have w4 := PySem.F.called_set.init.lookup
    have w5 := PySem.F.called_set.init.bind (.ref s.heap.objs.size)
    repeat (any_goals (first | assumption | wp_step))
    refine codeAny_mono (codeAny_call_builtin (R := wants (fun r s2 => r = .none ∧ ∃ h2 tk c, s2 = { s with heap := h2, toks := tk } ∧ SetR w h2 s.heap.objs.size (fun j => decide (j ∈ ns)) c ∧ c ≤ ns.length ∧ (∀ b o, s.heap.get? b = some o → h2.get? b = some o)) E)
      PySem.F.called_set.init.plain PySem.F.entry_set_init (check_set_init_1 tS ?_)) fun r2 s2 hr2 => ?_
    · obtain ⟨ol, hol, hcl, nl, hdl⟩ := hl
      obtain ⟨oc, od, odat, osl⟩ := ol
      dsimp only at hcl hdl
      subst hcl; subst hdl
      have hol2 : (s.heap.push (nSet w)).get? l = some { cls := .type "list", dict := od, data := .seq its nl, slots := osl } := Heap.get?_push_of_some _ hol
      have w6 := PySem.F.sub_list_set
      have w7 := PySem.F.sub_list_frozenset
      have w8 : (Value.type "list" == Value.type "dict") = false := by decide
      have hl2 : (s.heap.push (nSet w)).IsList l its := ⟨_, hol2, rfl, nl, rfl⟩
      unfold Builtin.«set.__init__» noKeywords Builtin.Frozenset.updateFrom
      generalize hIT : pyIter = IT
      wp_walk
      subst hIT
      refine wpAny_pyIter_list hl2 (wpAny_bind (wpAny_runValue ?_))
      have lS : l < s.heap.objs.size := Heap.lt_size hol
      have h3 : A.in1.in1.in1.handled = none := by simp [hA]
      have nI : l ≠ (s.heap.push (nSet w)).objs.size := by rw [Heap.size_push]; exact Nat.ne_of_lt (Nat.lt_succ_of_lt lS)
      have nS : s.heap.objs.size ∉ [(s.heap.push (nSet w)).objs.size, l] := by
        rw [Heap.size_push]
        simp only [List.mem_cons, List.not_mem_nil, or_false, not_or]
        exact ⟨Nat.ne_of_lt (Nat.lt_succ_self _), Nat.ne_of_gt lS⟩
      have hv : ∀ (i : Nat) (v : Value), its[i]? = some v → ∃ k t, ns[i]? = some k ∧ v = .int k t := fun i v e => by
        have hi' : i < ns.length := by rw [← hsz]; exact (Array.getElem?_eq_some_iff.mp e).1
        obtain ⟨t, z⟩ := IntsAre.int_at hi i v (by rw [Array.getElem?_toList]; exact e)
        exact ⟨ns[i], t, List.getElem?_eq_getElem hi', by rw [z, List.getD_eq_getElem?_getD, List.getElem?_eq_getElem hi'] <;> rfl⟩
      refine set_update_ints ((Walks.list h3 _ l nI its).toS) s.heap.objs.size nS ns hsz hb hv (its.size - 0) 0 _ (by omega) (Nat.zero_le _) ⟨⟨_, Heap.get?_push_size _ rfl, rfl, rfl⟩, (hl2.push _)⟩ ⟨0, Nat.le_refl 0, setR_new_at (Heap.get?_push_of_some _ gS)⟩ ?_
      intro s3 c3 mv hc3 hS3
      obtain ⟨h4, g4, d4, t4, o4⟩ := s3
      obtain rfl : g4 = s.gens := mv.gens
      obtain rfl : d4 = s.drawn := mv.drawn
      obtain rfl : o4 = s.os := mv.os
      show wpAny _ _ _ _ _ _
      refine wpAny_pure (show wpAny _ _ (ret Value.none) _ _ _ from wpAny_pure ⟨rfl, h4, t4, c3, rfl, hS3, by rw [hsz] at hc3; exact hc3, fun b o e => ?_⟩)
      have b0 : b < s.heap.objs.size := Heap.lt_size e
      refine mv.heap b o ?_ (Heap.get?_push_of_some _ (Heap.get?_push_of_some _ e))
      have b1 : b ≠ (s.heap.push (nSet w)).objs.size := by rw [Heap.size_push]; exact Nat.ne_of_lt (Nat.lt_succ_of_lt b0)
      simp only [List.mem_cons, List.not_mem_nil, or_false, not_or]
      exact ⟨Nat.ne_of_lt b0, b1⟩
    · rcases r2 with e | fl2
      · exact hr2
      rcases fl2 with ob | _ | _ | _
      case ok.next => exact hr2.elim
      case ok.brk => exact hr2.elim
      case ok.cont => exact hr2.elim
      obtain ⟨rfl, h4, tk, c4, rfl, hS4, hc4, hk4⟩ := hr2
      repeat (any_goals (first | assumption | wp_step))
      exact h _ _ _ hS4 hc4 hk4)⟩
end
section
variable {X : Cx} {K : PySem.W.Frag}
def rSetL (K : PySem.W.Frag) (w : World) : List V → Hp → VK → Prop := fun vs H Q => ∃ (a : Addr) (ns : List Int), vs = [V.ref a] ∧ SqL K H a (ns.map V.int) ∧ ns.length < 1000 ∧
  ∀ (p : Addr) (c : Nat), c ≤ ns.length → H p = none → Q (.ref p) (upd H p (SetO w p (fun j => decide (j ∈ ns)) c))
theorem kSet (hc : X.calm = true) (hK : X.K = K := by rfl) (w : World) (hw : X.w = w := by rfl) : CallR X (.type "set") (rSetL K w) := by
  subst hK
  subst hw
  intro pins s σ H vs us Q I r h
  obtain ⟨a, ns, rfl, hl, h1, q⟩ := h
  rw [Vals.ref1 r]
  obtain ⟨its, hv, ⟨ob, nn, e1, e2, e3, e4⟩, hz⟩ := I.list hl
  refine set_of_ints (its := its.toArray) ns (I.ok.hd hc) ?_ (by simpa using Vals.ints hv) (by unfold scanBound; omega) fun h2 tk c hS hcl hk => ?_
  · exact ⟨ob, e1, e2, nn, e4⟩
  · have J := I.laid (t' := tk) hk (Nat.le_refl _) (setO_new (P := X.prog) (H := upd H s.heap.objs.size (SetO X.w s.heap.objs.size (fun j => decide (j ∈ ns)) c)) hS)
    exact ⟨V.ref _, _, J, rfl, q _ c hcl I.fresh⟩
end
end HM

/-! Lay8 -/
namespace HM
open PySem L2
/-! ### sorted(set(..)) -/
def insU (k : Int) : List Int → List Int
  | [] => [k]
  | x :: xs => if k < x then k :: x :: xs else if k = x then x :: xs else x :: insU k xs
def sortU (ns : List Int) : List Int := ns.foldr insU []
theorem mem_insU {k j : Int} : ∀ {l : List Int}, j ∈ insU k l ↔ j = k ∨ j ∈ l
  | [] => by simp [insU]
  | x :: xs => by
    unfold insU
    split
    · simp
    · split
      · rename_i h; subst h; simp
      · rw [List.mem_cons, mem_insU, List.mem_cons]
        constructor
        · rintro (h | h | h)
          · exact .inr (.inl h)
          · exact .inl h
          · exact .inr (.inr h)
        · rintro (h | h | h)
          · exact .inr (.inl h)
          · exact .inl h
          · exact .inr (.inr h)
theorem insU_sorted {k : Int} : ∀ {l : List Int}, l.Pairwise (· < ·) → (insU k l).Pairwise (· < ·)
  | [], _ => by simp [insU]
  | x :: xs, h => by
    obtain ⟨h1, h2⟩ := List.pairwise_cons.mp h
    unfold insU
    split
    · rename_i hk
      refine List.pairwise_cons.mpr ⟨fun y hy => ?_, h⟩
      rcases List.mem_cons.mp hy with e | e
      · omega
      · have := h1 y e; omega
    · split
      · exact h
      · refine List.pairwise_cons.mpr ⟨fun y hy => ?_, insU_sorted h2⟩
        rcases mem_insU.mp hy with e | e
        · omega
        · exact h1 y e
theorem mem_sortU {j : Int} : ∀ {l : List Int}, j ∈ sortU l ↔ j ∈ l
  | [] => by simp [sortU]
  | x :: xs => by
    show j ∈ insU x (sortU xs) ↔ _
    rw [mem_insU, mem_sortU, List.mem_cons]
theorem sortU_sorted : ∀ l : List Int, (sortU l).Pairwise (· < ·)
  | [] => List.Pairwise.nil
  | x :: xs => insU_sorted (sortU_sorted xs)
theorem sorted_unique : ∀ {l m : List Int}, l.Pairwise (· < ·) → m.Pairwise (· < ·) → (∀ k, k ∈ l ↔ k ∈ m) → l = m
  | [], [], _, _, _ => rfl
  | [], y :: ys, _, _, h => absurd ((h y).mpr List.mem_cons_self) (by simp)
  | x :: xs, [], _, _, h => absurd ((h x).mp List.mem_cons_self) (by simp)
  | x :: xs, y :: ys, h1, h2, h => by
    obtain ⟨a1, a2⟩ := List.pairwise_cons.mp h1
    obtain ⟨b1, b2⟩ := List.pairwise_cons.mp h2
    have e : x = y := by
      rcases List.mem_cons.mp ((h x).mp List.mem_cons_self) with e | e
      · exact e
      · rcases List.mem_cons.mp ((h y).mpr List.mem_cons_self) with e2 | e2
        · exact e2.symm
        · have := a1 y e2; have := b1 x e; omega
    subst e
    congr 1
    refine sorted_unique a2 b2 fun k => ⟨fun hk => ?_, fun hk => ?_⟩
    · rcases List.mem_cons.mp ((h k).mp (List.mem_cons_of_mem _ hk)) with e | e
      · have := a1 k hk; omega
      · exact e
    · rcases List.mem_cons.mp ((h k).mpr (List.mem_cons_of_mem _ hk)) with e | e
      · have := b1 k hk; omega
      · exact e
theorem sortU_len : ∀ l : List Int, (sortU l).length ≤ l.length := by
  intro l
  induction l with
  | nil => exact Nat.le_refl _
  | cons x xs ih =>
    have : ∀ (k : Int) (m : List Int), (insU k m).length ≤ m.length + 1 := by
      intro k m
      induction m with
      | nil => exact Nat.le_refl _
      | cons y ys ih2 =>
        unfold insU
        split
        · exact Nat.le_refl _
        · split
          · exact Nat.le_succ _
          · exact Nat.succ_le_succ ih2
    show (insU x (sortU xs)).length ≤ xs.length + 1
    have := this x (sortU xs)
    omega
theorem sortU_eq {l : List Int} (h : l.Pairwise (· < ·)) : sortU l = l := sorted_unique (sortU_sorted l) h fun _ => mem_sortU
theorem sortU_fix {l : List Int} (h : l = sortU l) : l.Pairwise (· < ·) := by rw [h]; exact sortU_sorted l
section
variable {K : PySem.W.Frag} {w : World} {ds : Env} {ta tb te tl : TE} {a b d : D} {s : S}
theorem ev_sortU {ns : List Int} (h : EvS K te ds (.p (.lst (ns.map I)))) (hl : Hyp (ns.length < 64)) : EvS K (tCB (rSortedSet w) (tCons (tCB (rSetL K w) (tCons te tNil)) tNil)) ds (.o ((sortU ns).map I)) := fun σ H0 G H Q e q =>
  h σ H0 G H _ e fun v G1 H1 g1 hv => by
    have hl' : ns.length < 64 := hl
    cases hv with
    | lst h1 h2 =>
      cases ats_ints h2
      refine ⟨_, ns, rfl, SqL.of (g1.s _ _ h1), by omega, fun p c hc hp => ?_⟩
      refine ⟨p, _, c, rfl, upd_same, by omega, fun ms r hm1 hm2 hm3 hr => ?_⟩
      have e2 : ms = sortU ns := sorted_unique hm1 (sortU_sorted ns) fun k => by rw [hm2 k, mem_sortU]; simp
      subst e2
      have g2 : Gr G1 H1 G1 (upd H1 p (SetO w p (fun j => decide (j ∈ ns)) c)) := .own g1.s hp
      have g3 := (g1.trans g2).trans (.own (p := r) (o := .lst ((sortU ns).map V.int)) g2.s hr)
      exact q _ G1 _ g3 ⟨r, _, rfl, (g1.trans g2).h.free hr, g2.s.free hr, upd_same, ints_ats _⟩
theorem ats_ints_of {G : Hp} {vs : List V} {ns : List Int} (h : Ats K G vs (ns.map I)) : vs = ns.map V.int := ats_ints h
/-- min, max of a list of ints -/
theorem ev_minL {ta : TA} {ns : List Int} {m : Int} (h : EvA K ta ds [.lst (ns.map I)]) (hm : Hyp (m ∈ ns ∧ ∀ y ∈ ns, m ≤ y)) : EvS K (tCB (rMin K) ta) ds (.p (I m)) := ev_cb h fun G H vs Q e hv q => by
  have hm' : m ∈ ns ∧ ∀ y ∈ ns, m ≤ y := hm
  cases hv with
  | cons h t => cases t; cases h with
    | lst h1 h2 =>
      cases ats_ints h2
      refine ⟨_, ns, rfl, SqL.of (e _ _ h1), List.length_pos_of_mem hm'.1, fun m' hm1 hm2 => ?_⟩
      have e2 : m' = m := Int.le_antisymm (hm2 m hm'.1) (hm'.2 m' hm1)
      rw [e2]
      exact q _ G H (.refl e) (.val _)
theorem ev_maxL {ta : TA} {ns : List Int} {m : Int} (h : EvA K ta ds [.lst (ns.map I)]) (hm : Hyp (m ∈ ns ∧ ∀ y ∈ ns, y ≤ m)) : EvS K (tCB (rMax K) ta) ds (.p (I m)) := ev_cb h fun G H vs Q e hv q => by
  have hm' : m ∈ ns ∧ ∀ y ∈ ns, y ≤ m := hm
  cases hv with
  | cons h t => cases t; cases h with
    | lst h1 h2 =>
      cases ats_ints h2
      refine ⟨_, ns, rfl, SqL.of (e _ _ h1), List.length_pos_of_mem hm'.1, fun m' hm1 hm2 => ?_⟩
      have e2 : m' = m := Int.le_antisymm (hm'.2 m' hm1) (hm2 m hm'.1)
      rw [e2]
      exact q _ G H (.refl e) (.val _)
/-! ### instances -/
/-- what an __init__ of two fields does -/
def spI2 (C : Addr) (f1 f2 : Str) : Sp := fun vs H Q _ => ∃ x dx v1 v2, vs = [.ref x, v1, v2] ∧ H x = some (.ins C dx []) ∧ ∀ H' : Hp, (∀ a, a ≠ x → H' a = H a) → H' x = some (.ins C dx [(f1, v1), (f2, v2)]) → Q .non H'
/-- what an __init__ of one field, a copied list, does -/
def spIL (K : PySem.W.Frag) (C : Addr) (f : Str) : Sp := fun vs H Q _ => ∃ x dx l ys, vs = [.ref x, .ref l] ∧ H x = some (.ins C dx []) ∧ SqL K H l ys ∧
  ∀ (H' : Hp) (q : Addr), H q = none → (∀ a, a ≠ x → a ≠ q → H' a = H a) → H' q = some (.lst ys) → H' x = some (.ins C dx [(f, .ref q)]) → Q .non H'
theorem ev_make2 {C : Addr} {f1 f2 : Str} {E : XK} {ta : TA} {d1 d2 : D} (h : EvA K ta ds [d1, d2]) : EvS K (tMake C (spI2 C f1 f2) [] E ta) ds (.p (.ins C [(f1, d1), (f2, d2)])) := fun σ H0 G H Q e q =>
  h σ H0 G H _ e fun vs G1 H1 g1 hv => by
    cases hv with
    | @cons v1 _ _ _ h1 t => cases t with
      | @cons v2 _ _ _ h2 t =>
        cases t
        intro x dx hx hdx hne
        refine ⟨x, dx, v1, v2, rfl, upd_same, fun H' hk hx' => ⟨rfl, ?_⟩⟩
        have gx : G1 x = none := g1.s.free hx
        have k : ∀ a o, H1 a = some o → H' a = some o := fun a o ha => by
          have n1 : a ≠ x := ne_of_none ha hx
          have n2 : a ≠ dx := ne_of_none ha hdx
          rw [hk a n1, upd_ne n1, upd_ne n2]
          exact ha
        have ge : Ex G1 (upd G1 x (.ins C dx [(f1, v1), (f2, v2)])) := (Ex.refl G1).putR gx
        refine q (.ref x) (upd G1 x (.ins C dx [(f1, v1), (f2, v2)])) H' (g1.trans ⟨ge, k, Ex.putL (fun a o z => k a o (g1.s a o z)) hx', fun a ha => upd_ne fun z => ha (z ▸ hx)⟩) (.ins upd_same (.cons (h1.mono ge) (.cons (h2.mono ge) .nil)))
theorem ev_make0 {C : Addr} : EvS K (tMake0 C) ds (.p (.ins C [])) := fun σ H0 G H Q e q => by
  intro x dx hx hdx hne
  have gx : G x = none := e.gh.free hx
  have k : ∀ a o, H a = some o → (upd (upd H dx (.own x)) x (.ins C dx [])) a = some o := fun a o ha => by
    rw [upd_ne (ne_of_none ha hx), upd_ne (ne_of_none ha hdx)]
    exact ha
  refine q (.ref x) (upd G x (.ins C dx [])) _ ⟨(Ex.refl G).putR gx, k, Ex.putL (fun a o z => k a o (e.gh a o z)) upd_same, fun a ha => upd_ne fun z => ha (z ▸ hx)⟩ (.ins upd_same .nil)
theorem en_makeL {C : Addr} {f : Str} {E : XK} {ta : TA} {xs : List D} (h : EvA K ta ds [.lst xs]) : EvS K (tMake C (spIL K C f) [] E ta) ds (.n C f xs) := fun σ H0 G H Q e q =>
  h σ H0 G H _ e fun vs G1 H1 g1 hv => by
    cases hv with
    | cons h1 t =>
      cases t
      cases h1 with
      | lst k1 k2 =>
        intro x dx hx hdx hne
        have k0 : ∀ a o, H1 a = some o → (upd (upd H1 dx (.own x)) x (.ins C dx [])) a = some o := fun a o ha => by
          rw [upd_ne (ne_of_none ha hx), upd_ne (ne_of_none ha hdx)]
          exact ha
        refine ⟨x, dx, _, _, rfl, upd_same, SqL.of (k0 _ _ (g1.s _ _ k1)), fun H' r hr hk hr' hx' => ⟨rfl, ?_⟩⟩
        have nrx : r ≠ x := fun z => by rw [z, upd_same] at hr; cases hr
        have nrd : r ≠ dx := fun z => by rw [z, upd_ne hne, upd_same] at hr; cases hr
        have hr1 : H1 r = none := by rw [upd_ne nrx, upd_ne nrd] at hr; exact hr
        have k : ∀ a o, H1 a = some o → H' a = some o := fun a o ha => by
          rw [hk a (ne_of_none ha hx) (ne_of_none ha hr1)]
          exact k0 a o ha
        exact q (.ref x) G1 H' (g1.trans ⟨.refl _, k, fun a o z => k a o (g1.s a o z), fun _ _ => rfl⟩) ⟨x, dx, r, _, rfl, g1.h.free hx, g1.s.free hx, g1.h.free hr1, g1.s.free hr1, Ne.symm nrx, hx', hr', k2⟩
theorem ev_makeL {C : Addr} {f : Str} {E : XK} {ta : TA} {xs : List D} (h : EvA K ta ds [.lst xs]) : EvS K (tMake C (spIL K C f) [] E ta) ds (.p (.ins C [(f, .lst xs)])) := (en_makeL h).pureN
theorem ev_orL {t1 t2 : TE} (h : EvS K t1 ds s) : EvS K (fun σ H Q => t1 σ H Q ∨ t2 σ H Q) ds s := fun σ H0 G H Q e q => .inl (h σ H0 G H Q e q)
theorem ev_orR {t1 t2 : TE} (h : EvS K t2 ds s) : EvS K (fun σ H Q => t1 σ H Q ∨ t2 σ H Q) ds s := fun σ H0 G H Q e q => .inr (h σ H0 G H Q e q)
end
/-! ### methods -/
section
variable {P : Program} {w : World} {K : PySem.W.Frag} {mg : Str → Option Value} {base : Heap}
/-- where a method stands -/
def MethAt (K : PySem.W.Frag) (C : Addr) (m qual : Str) (st : Stmt) : Prop := ∃ (f : Addr) (fd : FuncData), Fun K m qual st f fd ∧ Meth K C m f
theorem mcallee_mk {C : Addr} {m qual : Str} {st : Stmt} {N ps : List Str} {k : Nat} {Pr : List D → S → Prop} (F : MethAt K C m qual st) (sc : FnScope N ps (defScope st))
    (hb : ∀ (kV doc pm : Value) (an : Option Addr) (cdv ct : Value) (us : List Value), us.length = ps.length → bindArgs (PySem.W.fnOf m qual (defArgs st) (defBody st) (defScope st) .none kV doc pm an cdv ct) ⟨us, []⟩ = pure (ps.zip us))
    (len : ∀ as s, Pr as s → as.length = ps.length)
    (body : ∀ (f : Addr) (cdv : Value) (A : Around) (outer : List PySem.Env) (s : Shared) (H : Hp) (E : XK) (as : List D) (r : S), Room k (A.deeper (PyProof.Rows.envOfC qual (defScope st) s.heap.objs.size f cdv)) → Pr as r →
      ∃ t, PSs (cxOf CX0 P w K mg base N qual (defScope st) f cdv A outer s H E).nox (defBody st) t ∧ SD K t (as.map (fun d => some (S.p d)) ++ List.replicate (N.length - as.length) none) (fun _ => r = .p dN) (fun s' => s' = r)) :
    MCallee P w K mg base C m (k + 1) ps (spS K Pr) := by
  obtain ⟨f, fd, F, hm⟩ := F
  exact ⟨f, fd, fnok_mk F sc len (body f), hm, F.binds hb⟩
/-- an __init__ that stands in the text -/
def InitAt (K : PySem.W.Frag) (C : Addr) (qual : Str) (st : Stmt) : Prop := ∃ (f : Addr) (fd : FuncData), Fun K "__init__" qual st f fd ∧ Mk K C f
end
end HM

/-! Lay9 -/
namespace HM
open PySem L2
/-! ### slots forgotten -/
inductive Sub : Env → Env → Prop
  | nil : Sub [] []
  | keep {a : Option S} {e ds : Env} : Sub e ds → Sub (a :: e) (a :: ds)
  | drop {x : Option S} {e ds : Env} : Sub e ds → Sub (none :: e) (x :: ds)
theorem Sub.len : ∀ {e ds : Env}, Sub e ds → e.length = ds.length
  | _, _, .nil => rfl
  | _, _, .keep h => by rw [List.length_cons, List.length_cons, Sub.len h]
  | _, _, .drop h => by rw [List.length_cons, List.length_cons, Sub.len h]
theorem Sub.get : ∀ {e ds : Env}, Sub e ds → ∀ (i : Nat) (s : S), e[i]? = some (some s) → ds[i]? = some (some s)
  | _, _, .nil, i, s, h => by simp at h
  | _, _, .keep t, 0, s, h => by simpa using h
  | _, _, .keep t, i + 1, s, h => by
    have := Sub.get t i s (by simpa using h)
    simpa using this
  | _, _, .drop t, 0, s, h => by simp at h
  | _, _, .drop t, i + 1, s, h => by
    have := Sub.get t i s (by simpa using h)
    simpa using this
theorem Sub.refl : ∀ e : Env, Sub e e
  | [] => .nil
  | _ :: e => .keep (Sub.refl e)
def isN : Option S → Bool
  | none => false
  | some (.p _) => false
  | some (.o _) => false
  | _ => true
theorem noN {ds : Env} (h : ds.any isN = false) : NoO ds := fun j s z => by
  have hj : isN (some s) = false := by
    cases q : isN (some s) with
    | false => rfl
    | true =>
      have : ds.any isN = true := List.any_eq_true.mpr ⟨_, List.mem_of_getElem? z, q⟩
      rw [h] at this
      cases this
  cases s with
  | p d => exact .inl ⟨d, rfl⟩
  | o xs => exact .inr ⟨xs, rfl⟩
  | n C f xs => cases hj
  | q xss => cases hj
  | g kvs => cases hj
section
variable {K : PySem.W.Frag} {w : World} {ds e : Env} {ta tb te tl : TE} {t u : TS} {c : TT} {a b d : D} {s : S} {N : Env → Prop} {R : S → Prop}
theorem SD.sub (h : Sub e ds) (k : SD K t e N R) : SD K t ds N R := fun E σ G0 H0 G H g en n r => k E σ G0 H0 G H g (en.drop h.len h.get) n r
theorem EvS.sub (h : Sub e ds) (k : EvS K te e s) : EvS K te ds s := fun σ H0 G H Q en q => k σ H0 G H Q (en.drop h.len h.get) q
/-- a for whose invariant is told by the slots that are kept -/
theorem sd_forE {wi : TI} {g : TG} {gv : List Nat} {xs : List D} (hi : EvI K wi ds xs) (Ef : Nat → Env) (h0 : Sub (Ef 0) ds)
    (hs : ∀ (i : Nat) (x : D), xs[i]? = some x → SG K g gv x (Ef i) fun ds2 => SD K t ds2 (fun ds3 => Sub (Ef (i + 1)) ds3) R) (hd : N (Ef xs.length)) (hN : ∀ ds', Sub (Ef xs.length) ds' → N (Ef xs.length) → N ds') : SD K (tFor wi g t) ds N R :=
  sd_for (gv := gv) hi (fun i ds' => Sub (Ef i) ds') h0 (fun i x ds' hx hsub σ H0 G H v Q en hv q => by
    exact hs i x hx σ H0 G H v Q (en.drop hsub.len hsub.get) hv q) fun ds' h => hN ds' h hd
theorem sd_seqFor {wi : TI} {g : TG} {gv : List Nat} {xs : List D} (hi : EvI K wi ds xs) (Ef : Nat → Env) (h0 : Sub (Ef 0) ds)
    (hs : ∀ (i : Nat) (x : D), xs[i]? = some x → SG K g gv x (Ef i) fun ds2 => SD K t ds2 (fun ds3 => Sub (Ef (i + 1)) ds3) R) (hd : SD K u (Ef xs.length) N R) : SD K (tSeq (tFor wi g t) u) ds N R :=
  sd_seq (sd_forE hi Ef h0 hs hd fun ds' h k => k.sub h)
theorem Sub.trans : ∀ {e d c : Env}, Sub e d → Sub d c → Sub e c
  | _, _, _, .nil, h => h
  | _, _, _, .keep h, .keep k => .keep (Sub.trans h k)
  | _, _, _, .keep h, .drop k => .drop (Sub.trans h k)
  | _, _, _, .drop h, .keep k => .drop (Sub.trans h k)
  | _, _, _, .drop h, .drop k => .drop (Sub.trans h k)
theorem sd_forS {wi : TI} {g : TG} {gv : List Nat} {xs : List D} (hi : EvI K wi ds xs) (Ef : Nat → Env) (h0 : Sub (Ef 0) ds)
    (hs : ∀ (i : Nat) (x : D), xs[i]? = some x → SG K g gv x (Ef i) fun ds2 => SD K t ds2 (fun ds3 => Sub (Ef (i + 1)) ds3) R) (hd : Sub e (Ef xs.length)) : SD K (tFor wi g t) ds (fun d => Sub e d) R :=
  sd_forE hi Ef h0 hs hd fun ds' h k => k.trans h
theorem sd_seqE (e : Env) (h1 : SD K t ds (fun ds' => Sub e ds') R) (h2 : SD K u e N R) : SD K (tSeq t u) ds N R := sd_seq (h1.mono (fun ds' h => h2.sub h) fun _ h => h)
/-- a written fraction -/
theorem ev_frc {q : Rat} {a b : Int} (h : fr q = .tup [I a, I b]) : EvS K (tTup (tCons (tC (.int a)) (tCons (tC (.int b)) tNil))) ds (.p (fr q)) := by
  rw [h]
  exact ev_tup (ea_cons ev_c (ea_cons ev_c ea_nil)) (hLen rfl)
theorem ev_nilL : EvS K (tLst tNil) ds (.p (.lst [])) := EvS.pure (ev_lst ea_nil (hLen rfl))
theorem eq_nil (xs : List D) : eqD (.lst xs) (.lst []) = xs.isEmpty := by cases xs <;> rfl
theorem eq_nilF (xs : List D) : eqD (.fz xs) (.lst []) = xs.isEmpty := by cases xs <;> rfl
/-! ### the script -/
theorem rc_sumF {ns : List Int} : RC K (rSum K) [.fz (ns.map I)] (.p (I ns.sum)) := fun G H vs Q e hv q => by
  cases hv with
  | cons h t => cases t; cases h with
    | fz h1 h2 => cases ats_ints h2; exact ⟨_, ns, rfl, e.seq h1, q _ G H (.refl e) (.val _)⟩
theorem ev_sumF {ta : TA} {ns : List Int} (h : EvA K ta ds [.fz (ns.map I)]) : EvS K (tCB (rSum K) ta) ds (.p (I ns.sum)) := ev_cb h rc_sumF
theorem cutD_take {xs : List D} (k : Nat) : cutD xs none (some (k : Int)) = xs.take k := by
  unfold cutD
  rw [HT.sIx_none, HT.sIx_nat, List.drop_zero, Nat.sub_zero]
  rcases Nat.lt_or_ge k xs.length with h | h
  · rw [Nat.min_eq_left (Nat.le_of_lt h)]
  · rw [Nat.min_eq_right h, List.take_of_length_le h, List.take_of_length_le (Nat.le_refl _)]
theorem cutD_drop {xs : List D} (k : Nat) : cutD xs (some (k : Int)) none = xs.drop k := by
  unfold cutD
  rw [HT.sIx_none, HT.sIx_nat]
  rcases Nat.lt_or_ge k xs.length with h | h
  · rw [Nat.min_eq_left (Nat.le_of_lt h), List.take_of_length_le (by rw [List.length_drop]; omega)]
  · rw [Nat.min_eq_right h, List.drop_of_length_le h, List.drop_of_length_le (Nat.le_refl _), List.take_nil]
theorem cutD_init {xs : List D} : cutD xs none (some (-1)) = xs.dropLast := by
  unfold cutD
  rw [HT.sIx_none, List.drop_zero, Nat.sub_zero, List.dropLast_eq_take]
  congr 1
  unfold HT.sIx
  dsimp only
  rw [if_pos (by decide)]
  omega
theorem atI_lastD {xs : List D} {d : D} (h : xs.getLast? = some d) : atI xs (-1) = some d := by
  obtain ⟨ys, rfl⟩ := List.getLast?_eq_some_iff.mp h
  exact atI_last ys d
end
/-! ### the law's end -/
theorem bits_bt {z : Int} (h : Builtin.Int.intBits z ≤ 1048576) : Bt 1048576 z := by
  unfold Builtin.Int.intBits at h
  unfold Bt
  by_cases hz : z = 0
  · subst hz
    exact Nat.pos_of_ne_zero (by simp)
  · have hz' : (z == 0) = false := by simpa using hz
    rw [hz'] at h
    have hn : z.natAbs ≠ 0 := by omega
    refine (Nat.log2_lt hn).mp ?_
    have h2 : z.natAbs.log2 + 1 ≤ 1048576 := by simpa using h
    omega
/-- of the script: few cells of few bits -/
def PScript (as : List D) (s : S) : Prop := ∃ ns : List Int, as = [.fz (ns.map I)] ∧ ns.length ≤ 63 ∧ (∀ c ∈ ns, Bt 1048576 c) ∧ s = .p (B true)
theorem law_walk {l : PySem.W.OpenLaw} {q : Program} {loose : List Str} {XP : (Str → Option Value) → Heap → Prop} {YP : World → Heap → Prop} {d : DefRec} {K : Params → PySem.W.Frag} {k : Nat} {x : Str} (hn : l.most = some 63) (hdf : d.params.defaults = [])
    (hr : Room k PySem.callerA) (hY : ∀ (w : World) (h : Heap), YP w h → (K w.params).In h)
    (F : ∀ (w : World) (mg : Str → Option Value) (fa : Addr) (h : Heap), (K w.params).In h → h.Ns mainGlobals mg → mg d.name = some (.ref fa) →
      ∃ fd : FuncData, (∀ (s : Shared) (u : Value), BindsTo s fd ⟨[u], []⟩ [(x, u)]) ∧ ∀ base : Heap, (K w.params).In base → base.Ns mainGlobals mg → FnOk l.prog w (K w.params) mg base CX0 k fa fd [x] (spS (K w.params) PScript)) :
    PySem.W.WalkO q loose XP YP l.row.toRowW d [] (fun f vs => PySem.call f vs) :=
  L2.walk_ofB (n := 63) (CX := fun _ => CX0) (sp := fun w => spS (K w.params) PScript) hn (by decide) hdf hr hY F (fun w H a ns hl hb _ hS =>
    ⟨H, [.fz (ns.map I)], .p (B true), .refl _, .one (.fz hS (ints_ats ns)), ⟨ns, rfl, hl, fun c hc => bits_bt (hb c hc), rfl⟩, fun v G' H' _ hv => by cases hv; rfl⟩) fun _ _ _ _ _ z => z
end HM

/-! Mth2 -/
namespace HM
abbrev Hd := Int × Rat
/-! ### when hands are together -/
def Sol (h0 : Hd) (t : Rat) (h : Hd) : Prop := Wh (((h.1 - h0.1 : Int) : Rat) * t - (h0.2 - h.2))
theorem sol_self (h0 : Hd) (t : Rat) : Sol h0 t h0 := ⟨0, by
  have : ((h0.1 - h0.1 : Int) : Rat) = 0 := by rw [Int.sub_self]; rfl
  rw [this]
  have e : ((0 : Int) : Rat) = 0 := rfl
  rw [e]
  grind⟩
/-- the program's clash -/
def clashF (one other third : Hd) : Bool :=
  let near := other.1 - one.1
  let far := third.1 - one.1
  let first := one.2 - other.2
  let second := one.2 - third.2
  if near = 0 ∨ far = 0 then (decide (near = 0) && decide (first.den ≠ 1)) || (decide (far = 0) && decide (second.den ≠ 1))
  else decide ((first * ((far / (Int.gcd near far : Int) : Int) : Rat) - second * ((near / (Int.gcd near far : Int) : Int) : Rat)).den ≠ 1)
theorem wh_iff {q : Rat} : Wh q ↔ q.den = 1 := wh_den
/-- where a clash is, there is no time -/
theorem clash_never {one other third : Hd} (h : clashF one other third = true) (t : Rat) : ¬ (Sol one t other ∧ Sol one t third) := by
  rintro ⟨h1, h2⟩
  unfold clashF at h
  dsimp only at h
  unfold Sol at h1 h2
  split at h
  · rw [Bool.or_eq_true, Bool.and_eq_true, Bool.and_eq_true] at h
    rcases h with ⟨a, b⟩ | ⟨a, b⟩
    · have a' := of_decide_eq_true a
      apply of_decide_eq_true b
      apply wh_iff.mp
      rw [a'] at h1
      have := h1.neg
      have e : ((0 : Int) : Rat) = 0 := rfl
      rw [e] at this
      have e2 : -(0 * t - (one.2 - other.2)) = one.2 - other.2 := by grind
      rwa [e2] at this
    · have a' := of_decide_eq_true a
      apply of_decide_eq_true b
      apply wh_iff.mp
      rw [a'] at h2
      have := h2.neg
      have e : ((0 : Int) : Rat) = 0 := rfl
      rw [e] at this
      have e2 : -(0 * t - (one.2 - third.2)) = one.2 - third.2 := by grind
      rwa [e2] at this
  · rename_i hn
    apply of_decide_eq_true h
    apply wh_iff.mp
    have hn1 : other.1 - one.1 ≠ 0 := fun z => hn (.inl z)
    generalize hN : other.1 - one.1 = near at *
    generalize hF : third.1 - one.1 = far at *
    have d1 : (Int.gcd near far : Int) ∣ near := Int.gcd_dvd_left near far
    have d2 : (Int.gcd near far : Int) ∣ far := Int.gcd_dvd_right near far
    have g0 : (Int.gcd near far : Int) ≠ 0 := by
      have : Int.gcd near far ≠ 0 := by rw [Ne, Int.gcd_eq_zero_iff]; exact fun z => hn1 z.1
      omega
    generalize (Int.gcd near far : Int) = g at *
    obtain ⟨x, hx⟩ := d1
    obtain ⟨y, hy⟩ := d2
    have ex : near / g = x := by rw [hx]; exact Int.mul_ediv_cancel_left x g0
    have ey : far / g = y := by rw [hy]; exact Int.mul_ediv_cancel_left y g0
    rw [ex, ey]
    obtain ⟨a, ha⟩ := h1
    obtain ⟨b, hb⟩ := h2
    refine ⟨b * x - a * y, ?_⟩
    rw [hx, Rat.intCast_mul] at ha
    rw [hy, Rat.intCast_mul] at hb
    rw [Rat.intCast_sub, Rat.intCast_mul, Rat.intCast_mul]
    grind
theorem ex_inv {n s : Int} : ∀ (k : Nat) (one other first second : Int), other.toNat ≤ k → 0 ≤ other → 0 ≤ one → s ∣ first * n - one → s ∣ second * n - other → ∃ f, s ∣ f * n - (Int.gcd one other : Int) := by
  intro k
  induction k with
  | zero =>
    intro one other first second hk h0 h1 a b
    have : other = 0 := by omega
    subst this
    refine ⟨first, ?_⟩
    have e : (Int.gcd one 0 : Int) = one := by rw [Int.gcd_zero]; omega
    rw [e]
    exact a
  | succ k ih =>
    intro one other first second hk h0 h1 a b
    by_cases ho : other = 0
    · subst ho
      refine ⟨first, ?_⟩
      have e : (Int.gcd one 0 : Int) = one := by rw [Int.gcd_zero]; omega
      rw [e]
      exact a
    · have hp : 0 < other := by omega
      have m1 := Int.emod_nonneg one ho
      have m2 := Int.emod_lt_of_pos one hp
      have e := Int.emod_add_mul_ediv one other
      obtain ⟨f, hf⟩ := ih other (one % other) second (first - (one / other) * second) (by omega) m1 h0 b (by
        obtain ⟨x, hx⟩ := a
        obtain ⟨y, hy⟩ := b
        refine ⟨x - (one / other) * y, ?_⟩
        grind)
      refine ⟨f, ?_⟩
      have e2 : Int.gcd other (one % other) = Int.gcd one other := by rw [Int.gcd_comm, gcd_emod]
      rw [e2] at hf
      exact hf
/-! ### one hand more -/
open Classical in
noncomputable def invM (n s : Int) : Int := if h : ∃ u : Int, 0 ≤ u ∧ u < s ∧ s ∣ n * u - 1 then h.choose else 0
theorem invM_spec {n s : Int} (hs : 0 < s) (hg : Int.gcd n s = 1) : 0 ≤ invM n s ∧ invM n s < s ∧ s ∣ n * invM n s - 1 := by
  have ex : ∃ u : Int, 0 ≤ u ∧ u < s ∧ s ∣ n * u - 1 := by
    obtain ⟨f, hf⟩ := ex_inv (n := n) (s := s) (n % s).toNat s (n % s) 0 1 (Nat.le_refl _) (Int.emod_nonneg _ (by omega)) (by omega) ⟨-1, by grind⟩ ⟨n / s, by
      have := Int.emod_add_mul_ediv n s
      omega⟩
    have e1 : Int.gcd s (n % s) = 1 := by rw [Int.gcd_comm, gcd_emod]; exact hg
    rw [e1] at hf
    refine ⟨f % s, Int.emod_nonneg _ (by omega), Int.emod_lt_of_pos _ hs, ?_⟩
    have e : f % s = f - s * (f / s) := by
      have := Int.emod_add_mul_ediv f s
      omega
    rw [e]
    obtain ⟨k, hk⟩ := hf
    refine ⟨k - n * (f / s), ?_⟩
    have : ((1 : Nat) : Int) = 1 := rfl
    rw [this] at hk
    grind
  unfold invM
  rw [dif_pos ex]
  exact ex.choose_spec
theorem inv_unique {n s u v : Int} (hs : 0 < s) (hg : Int.gcd n s = 1) (hu : 0 ≤ u ∧ u < s ∧ s ∣ n * u - 1) (hv : 0 ≤ v ∧ v < s ∧ s ∣ n * v - 1) : u = v := by
  have h1 : s ∣ n * (u - v) := by
    have := Int.dvd_sub hu.2.2 hv.2.2
    have e : n * u - 1 - (n * v - 1) = n * (u - v) := by grind
    rwa [e] at this
  have h2 : s ∣ u - v := by
    obtain ⟨x, hx⟩ := h1
    obtain ⟨y, hy⟩ := hu.2.2
    refine ⟨u * x - y * (u - v), ?_⟩
    grind
  obtain ⟨k, hk⟩ := h2
  have : k = 0 := by
    rcases Int.lt_trichotomy k 0 with h | h | h
    · have : s * k ≤ s * (-1) := Int.mul_le_mul_of_nonneg_left (by omega) (by omega)
      omega
    · exact h
    · have : s * 1 ≤ s * k := Int.mul_le_mul_of_nonneg_left (by omega) (by omega)
      omega
  rw [this] at hk
  omega
/-- the program's brought; none where there is no time -/
noncomputable def broughtF (first : Rat) (size : Nat) (more : Int) (lack : Rat) : Option (Rat × Nat) :=
  let by_ := Int.gcd size more
  let wide : Int := (size : Int) / (by_ : Int)
  let short := lack - first * more
  if wide * short.num % short.den ≠ 0 then none
  else some (first + Rat.divInt (wide * short.num / short.den * invM (more / (by_ : Int)) wide % wide) size, by_)
theorem wh_mul_iff {k : Int} {q : Rat} : Wh ((k : Rat) * q) ↔ k * q.num % (q.den : Int) = 0 := by
  have hd : (0 : Int) < q.den := by have := q.den_pos; omega
  have hq : q = (q.num : Rat) / ((q.den : Int) : Rat) := by rw [← Rat.divInt_eq_div, Rat.num_divInt_den]
  have hd' : ((q.den : Int) : Rat) ≠ 0 := by rw [Ne, Rat.intCast_eq_zero_iff]; omega
  constructor
  · rintro ⟨n, hn⟩
    rw [hq] at hn
    have : (k : Rat) * q.num = n * ((q.den : Int) : Rat) := by grind
    have e : k * q.num = n * q.den := by exact_mod_cast this
    rw [e, Int.mul_emod_left]
  · intro h
    obtain ⟨n, hn⟩ := Int.dvd_of_emod_eq_zero h
    refine ⟨n, ?_⟩
    have e : (k : Rat) * (q.num : Rat) = ((q.den : Int) : Rat) * (n : Rat) := by exact_mod_cast hn
    rw [hq]
    grind
/-- what holds of the time and the size behind some hands -/
structure InvT (h0 : Hd) (p : List Hd) (first : Rat) (size : Nat) : Prop where
  zero : size = 0 → ∀ h ∈ p, h = h0
  dvd : ∀ h ∈ p, (size : Int) ∣ h.1 - h0.1
  great : ∀ d : Int, (∀ h ∈ p, d ∣ h.1 - h0.1) → d ∣ size
  sol : 0 < size → ∀ h ∈ p, Sol h0 first h
theorem dvd_cast {a b : Int} (h : a ∣ b) : ∃ k : Int, b = a * k := h
theorem inv_start (h0 : Hd) : InvT h0 [] 0 0 := ⟨fun _ _ h => (by cases h), fun _ h => (by cases h), fun d _ => ⟨0, by simp⟩, fun h => absurd h (by decide)⟩
/-- a hand of the same rate -/
theorem inv_same {h0 h : Hd} {p : List Hd} {first : Rat} {size : Nat} (I : InvT h0 p first size) (hr : h.1 - h0.1 = 0) (hs : h0.2 - h.2 = 0) : InvT h0 (p ++ [h]) first size := by
  have e : h = h0 := by
    apply Prod.ext
    · omega
    · grind
  subst e
  refine ⟨fun z x hx => ?_, fun x hx => ?_, fun d hd => I.great d fun x hx => hd x (List.mem_append_left _ hx), fun z x hx => ?_⟩
  · rcases List.mem_append.mp hx with hx | hx
    · exact I.zero z x hx
    · exact List.mem_singleton.mp hx
  · rcases List.mem_append.mp hx with hx | hx
    · exact I.dvd x hx
    · rw [List.mem_singleton.mp hx, Int.sub_self]; exact Int.dvd_zero _
  · rcases List.mem_append.mp hx with hx | hx
    · exact I.sol z x hx
    · rw [List.mem_singleton.mp hx]; exact sol_self _ _
/-- the first hand of another rate -/
theorem inv_first {h0 h : Hd} {p : List Hd} {first : Rat} (I : InvT h0 p first 0) (hr : h.1 - h0.1 ≠ 0) : InvT h0 (p ++ [h]) ((h0.2 - h.2) / ((h.1 - h0.1 : Int) : Rat)) (h.1 - h0.1).natAbs := by
  have hr' : ((h.1 - h0.1 : Int) : Rat) ≠ 0 := by rw [Ne, Rat.intCast_eq_zero_iff]; exact hr
  refine ⟨fun z => absurd z (by omega), fun x hx => ?_, fun d hd => ?_, fun _ x hx => ?_⟩
  · rcases List.mem_append.mp hx with hx | hx
    · rw [I.zero rfl x hx, Int.sub_self]; exact Int.dvd_zero _
    · rw [List.mem_singleton.mp hx]; exact Int.natAbs_dvd.mpr (Int.dvd_refl _)
  · have := hd h (List.mem_append_right _ (List.mem_singleton.mpr rfl))
    exact Int.dvd_natAbs.mpr this
  · rcases List.mem_append.mp hx with hx | hx
    · rw [I.zero rfl x hx]; exact sol_self _ _
    · rw [List.mem_singleton.mp hx]
      refine ⟨0, ?_⟩
      have e : ((0 : Int) : Rat) = 0 := rfl
      rw [e]
      grind
theorem cop_of_gcd {a b g x y : Int} (hg : g = (Int.gcd a b : Int)) (h0 : 0 < g) (hx : a = g * x) (hy : b = g * y) : Int.gcd y x = 1 := by
  have h1 : (Int.gcd y x : Int) ∣ x := Int.gcd_dvd_right y x
  have h2 : (Int.gcd y x : Int) ∣ y := Int.gcd_dvd_left y x
  have h3 : g * (Int.gcd y x : Int) ∣ g := by
    have a1 : g * (Int.gcd y x : Int) ∣ a := by rw [hx]; exact Int.mul_dvd_mul_left g h1
    have a2 : g * (Int.gcd y x : Int) ∣ b := by rw [hy]; exact Int.mul_dvd_mul_left g h2
    have := Int.dvd_coe_gcd a1 a2
    rwa [← hg] at this
  obtain ⟨k, hk⟩ := h3
  have h4 : (Int.gcd y x : Int) * k = 1 := by
    have : g * ((Int.gcd y x : Int) * k) = g * 1 := by grind
    exact Int.eq_of_mul_eq_mul_left (by omega) this
  have h5 : (Int.gcd y x : Int) ∣ 1 := ⟨k, h4.symm⟩
  have := Int.eq_one_of_dvd_one (by omega) h5
  omega
/-- the sum that is brought is a time of the new hand, and of the old ones -/
theorem brought_core {first lack : Rat} {size more g wd mm u N turn : Int} (hg : 0 < g) (hwd : 0 < wd) (hs : size = g * wd) (hm : more = g * mm) (hu : wd ∣ mm * u - 1) (hN : (wd : Rat) * (lack - first * more) = N) (ht : turn = N * u % wd) :
    Wh ((more : Rat) * (first + (turn : Rat) / (size : Rat)) - lack) := by
  have e : turn = N * u - wd * (N * u / wd) := by
    have := Int.emod_add_mul_ediv (N * u) wd
    omega
  obtain ⟨k, hk⟩ := hu
  refine ⟨N * k - mm * (N * u / wd), ?_⟩
  have hk' : (mm : Rat) * u - 1 = wd * k := by
    have : ((mm * u - 1 : Int) : Rat) = ((wd * k : Int) : Rat) := by rw [hk]
    rw [Rat.intCast_sub, Rat.intCast_mul, Rat.intCast_mul] at this
    exact this
  have e' : (turn : Rat) = N * u - wd * ((N * u / wd : Int) : Rat) := by
    have : ((turn : Int) : Rat) = ((N * u - wd * (N * u / wd) : Int) : Rat) := by rw [e]
    rw [Rat.intCast_sub, Rat.intCast_mul, Rat.intCast_mul] at this
    exact this
  have hs' : (size : Rat) = g * wd := by rw [hs, Rat.intCast_mul]
  have hm' : (more : Rat) = g * mm := by rw [hm, Rat.intCast_mul]
  have g' : (g : Rat) ≠ 0 := by rw [Ne, Rat.intCast_eq_zero_iff]; omega
  have w' : (wd : Rat) ≠ 0 := by rw [Ne, Rat.intCast_eq_zero_iff]; omega
  rw [Rat.intCast_sub, Rat.intCast_mul, Rat.intCast_mul]
  generalize ((N * u / wd : Int) : Rat) = z at *
  rw [hs', e']
  have q1 : (more : Rat) * (((N : Rat) * u - wd * z) / (g * wd)) = mm * ((N : Rat) * u - wd * z) / wd := by
    rw [hm']
    grind
  have q2 : (more : Rat) * (first + ((N : Rat) * u - wd * z) / (g * wd)) - lack = -(lack - first * more) + mm * ((N : Rat) * u - wd * z) / wd := by
    rw [← q1]
    grind
  rw [q2]
  have q3 : lack - first * more = N / wd := by
    rw [← hN]
    grind
  rw [q3]
  grind
theorem sol_shift {first : Rat} {m turn size : Int} {l : Rat} (h : Wh ((m : Rat) * first - l)) (hs : size ≠ 0) (hd : size ∣ m) : Wh ((m : Rat) * (first + (turn : Rat) / (size : Rat)) - l) := by
  obtain ⟨k, hk⟩ := hd
  have s' : (size : Rat) ≠ 0 := by rw [Ne, Rat.intCast_eq_zero_iff]; exact hs
  have e : (m : Rat) * (first + (turn : Rat) / (size : Rat)) - l = ((m : Rat) * first - l) + ((k * turn : Int) : Rat) := by
    rw [hk, Rat.intCast_mul, Rat.intCast_mul]
    grind
  rw [e]
  exact h.add (.int _)
/-- another one: the time that is brought serves all -/
theorem inv_more {h0 h : Hd} {p : List Hd} {first f' : Rat} {size s' : Nat} (I : InvT h0 p first size) (hz : 0 < size) (hr : h.1 - h0.1 ≠ 0) (hb : broughtF first size (h.1 - h0.1) (h0.2 - h.2) = some (f', s')) : InvT h0 (p ++ [h]) f' s' ∧ 0 < s' := by
  unfold broughtF at hb
  dsimp only at hb
  split at hb
  · cases hb
  · rename_i hw
    injection hb with hb
    injection hb with hf hs
    have g0 : 0 < Int.gcd size (h.1 - h0.1) := by
      apply Nat.pos_of_ne_zero
      rw [Ne, Int.gcd_eq_zero_iff]
      omega
    have d1 : (Int.gcd size (h.1 - h0.1) : Int) ∣ (size : Int) := Int.gcd_dvd_left _ _
    have d2 : (Int.gcd size (h.1 - h0.1) : Int) ∣ h.1 - h0.1 := Int.gcd_dvd_right _ _
    have hw' : (size : Int) / (Int.gcd size (h.1 - h0.1) : Int) * (h0.2 - h.2 - first * ((h.1 - h0.1 : Int) : Rat)).num % ((h0.2 - h.2 - first * ((h.1 - h0.1 : Int) : Rat)).den : Int) = 0 := by
      by_cases z : (size : Int) / (Int.gcd size (h.1 - h0.1) : Int) * (h0.2 - h.2 - first * ((h.1 - h0.1 : Int) : Rat)).num % ((h0.2 - h.2 - first * ((h.1 - h0.1 : Int) : Rat)).den : Int) = 0
      · exact z
      · exact absurd z hw
    have hwh := wh_mul_iff.mpr hw'
    have hN := hwh
    obtain ⟨N, hN⟩ := hN
    have eN : (size : Int) / (Int.gcd size (h.1 - h0.1) : Int) * (h0.2 - h.2 - first * ((h.1 - h0.1 : Int) : Rat)).num / ((h0.2 - h.2 - first * ((h.1 - h0.1 : Int) : Rat)).den : Int) = N := by
      have hd : (0 : Int) < ((h0.2 - h.2 - first * ((h.1 - h0.1 : Int) : Rat)).den : Int) := by have := (h0.2 - h.2 - first * ((h.1 - h0.1 : Int) : Rat)).den_pos; omega
      generalize (size : Int) / (Int.gcd size (h.1 - h0.1) : Int) = wd at *
      generalize h0.2 - h.2 - first * ((h.1 - h0.1 : Int) : Rat) = q at *
      have hq : q = (q.num : Rat) / ((q.den : Int) : Rat) := by rw [← Rat.divInt_eq_div, Rat.num_divInt_den]
      have hd' : ((q.den : Int) : Rat) ≠ 0 := by rw [Ne, Rat.intCast_eq_zero_iff]; omega
      rw [hq] at hN
      have : (wd : Rat) * q.num = N * ((q.den : Int) : Rat) := by grind
      have e : wd * q.num = N * q.den := by exact_mod_cast this
      rw [e]
      exact Int.mul_ediv_cancel N (by omega)
    rw [eN] at hf
    obtain ⟨mm, hmm⟩ := id d2
    obtain ⟨wd, hwd⟩ := id d1
    generalize hG : (Int.gcd size (h.1 - h0.1) : Int) = g at *
    have gp : 0 < g := by omega
    have ew : (size : Int) / g = wd := by rw [hwd]; exact Int.mul_ediv_cancel_left wd (by omega)
    have em : (h.1 - h0.1) / g = mm := by rw [hmm]; exact Int.mul_ediv_cancel_left mm (by omega)
    have wp : 0 < wd := by
      rcases Int.lt_or_le 0 wd with z | z
      · exact z
      · have : g * wd ≤ 0 := Int.mul_nonpos_of_nonneg_of_nonpos (by omega) z
        omega
    rw [ew, em] at hf
    rw [ew] at hN
    have cop : Int.gcd mm wd = 1 := cop_of_gcd hG.symm gp hwd hmm
    have hu := invM_spec wp cop
    rw [Rat.divInt_eq_div] at hf
    have hgs : (s' : Int) = g := by omega
    have hsz : ((size : Int) : Rat) ≠ 0 := by rw [Ne, Rat.intCast_eq_zero_iff]; omega
    refine ⟨⟨fun z => absurd z (by omega), fun x hx => ?_, fun d hd => ?_, fun _ x hx => ?_⟩, by omega⟩
    · rw [hgs]
      rcases List.mem_append.mp hx with hx | hx
      · exact Int.dvd_trans d1 (I.dvd x hx)
      · rw [List.mem_singleton.mp hx]; exact d2
    · rw [hgs, ← hG]
      exact Int.dvd_coe_gcd (I.great d fun x hx => hd x (List.mem_append_left _ hx)) (hd h (List.mem_append_right _ (List.mem_singleton.mpr rfl)))
    · rw [← hf]
      rcases List.mem_append.mp hx with hx | hx
      · exact sol_shift (I.sol hz x hx) (by omega) (I.dvd x hx)
      · rw [List.mem_singleton.mp hx]
        exact brought_core gp wp hwd hmm hu.2.2 hN rfl
end HM

/-! Mth3 -/
namespace HM
/-! ### two or three that are never -/
/-- where no time is brought, one of the hands so far clashes -/
theorem helly {h0 h : Hd} {p : List Hd} {first : Rat} {size : Nat} (I : InvT h0 p first size) (hz : 0 < size) (hr : h.1 - h0.1 ≠ 0) (hc : ∀ x ∈ p, clashF h0 x h = false) : broughtF first size (h.1 - h0.1) (h0.2 - h.2) ≠ none := by
  unfold broughtF
  dsimp only
  split
  · rename_i hw
    exfalso
    apply hw
    apply wh_mul_iff.mp
    generalize hM : h.1 - h0.1 = more at *
    generalize hL : h0.2 - h.2 = lack at *
    generalize hS : lack - first * (more : Rat) = short at *
    have key : ∀ x ∈ p, (short.den : Int) * (Int.gcd (x.1 - h0.1) more : Int) ∣ x.1 - h0.1 := fun x hx => by
      by_cases hx0 : x.1 - h0.1 = 0
      · rw [hx0]; exact Int.dvd_zero _
      · have c := hc x hx
        unfold clashF at c
        dsimp only at c
        rw [hM, hL, if_neg (by rintro (z | z); exact hx0 z; exact hr z)] at c
        have c1 : ((h0.2 - x.2) * ((more / (Int.gcd (x.1 - h0.1) more : Int) : Int) : Rat) - lack * (((x.1 - h0.1) / (Int.gcd (x.1 - h0.1) more : Int) : Int) : Rat)).den = 1 := by
          have := of_decide_eq_false c
          omega
        obtain ⟨n, hn⟩ := wh_den.mpr c1
        obtain ⟨z, hsol⟩ := I.sol hz x hx
        have d1 : (Int.gcd (x.1 - h0.1) more : Int) ∣ x.1 - h0.1 := Int.gcd_dvd_left _ _
        have d2 : (Int.gcd (x.1 - h0.1) more : Int) ∣ more := Int.gcd_dvd_right _ _
        have g0 : (Int.gcd (x.1 - h0.1) more : Int) ≠ 0 := by
          have : Int.gcd (x.1 - h0.1) more ≠ 0 := by rw [Ne, Int.gcd_eq_zero_iff]; exact fun z => hx0 z.1
          omega
        generalize (Int.gcd (x.1 - h0.1) more : Int) = g at *
        generalize hX : x.1 - h0.1 = mx at *
        obtain ⟨a, ha⟩ := d1
        obtain ⟨b, hb⟩ := d2
        have ea : mx / g = a := by rw [ha]; exact Int.mul_ediv_cancel_left a g0
        have eb : more / g = b := by rw [hb]; exact Int.mul_ediv_cancel_left b g0
        rw [ea, eb] at hn
        have wh : Wh ((a : Rat) * short) := by
          refine ⟨-(n + z * b), ?_⟩
          rw [← hS, Rat.intCast_neg, Rat.intCast_add, Rat.intCast_mul]
          rw [ha, Rat.intCast_mul] at hsol
          rw [hb, Rat.intCast_mul]
          grind
        have dv := Int.dvd_of_emod_eq_zero (wh_mul_iff.mp wh)
        have cop : Int.gcd short.num short.den = 1 := short.reduced
        have dv2 : (short.den : Int) ∣ a := by
          have := ex_inv (n := short.num) (s := (short.den : Int)) (short.num % short.den).toNat short.den (short.num % short.den) 0 1 (Nat.le_refl _) (Int.emod_nonneg _ (by have := short.den_pos; omega)) (by omega) ⟨-1, by grind⟩ ⟨short.num / short.den, by
            have := Int.emod_add_mul_ediv short.num short.den
            omega⟩
          obtain ⟨f, hf⟩ := this
          have e1 : Int.gcd (short.den : Int) (short.num % short.den) = 1 := by rw [Int.gcd_comm, gcd_emod]; exact cop
          rw [e1] at hf
          obtain ⟨k, hk⟩ := hf
          obtain ⟨y, hy⟩ := dv
          refine ⟨f * y - k * a, ?_⟩
          have : ((1 : Nat) : Int) = 1 := rfl
          rw [this] at hk
          grind
        obtain ⟨y, hy⟩ := dv2
        refine ⟨y, ?_⟩
        rw [ha, hy]
        grind
    have dall : ∀ x ∈ p, (short.den : Int) * (Int.gcd size more : Int) ∣ x.1 - h0.1 := fun x hx => by
      refine Int.dvd_trans (Int.mul_dvd_mul_left _ ?_) (key x hx)
      exact Int.dvd_coe_gcd (Int.dvd_trans (Int.gcd_dvd_left _ _) (I.dvd x hx)) (Int.gcd_dvd_right _ _)
    have dsz := I.great _ dall
    have g0 : (Int.gcd size more : Int) ≠ 0 := by
      have : Int.gcd size more ≠ 0 := by rw [Ne, Int.gcd_eq_zero_iff]; omega
      omega
    generalize (Int.gcd size more : Int) = g at *
    obtain ⟨k, hk⟩ := dsz
    have e : (size : Int) / g = short.den * k := by
      rw [hk, Int.mul_comm (short.den : Int) g, Int.mul_assoc]
      exact Int.mul_ediv_cancel_left _ g0
    rw [e]
    apply wh_mul_iff.mpr
    rw [Int.mul_assoc]
    exact Int.mul_emod_right _ _
  · intro z
    cases z
/-- the program's never_of: the hands at the told places -/
def neverF (h0 : Hd) (p : List Hd) (h : Hd) : List Int :=
  match (List.range p.length).find? (fun i => clashF h0 ((p ++ [h]).getD (i + 1) h0) h) with
  | some i => if i + 1 = p.length then [0, (p.length : Int)] else [0, ((i + 1 : Nat) : Int), (p.length : Int)]
  | none => []
inductive Ans where
  | always
  | at_ (q : Rat) (n : Nat)
  | never (ks : List Int)
open Classical in
/-- the program's told, from hand to hand -/
noncomputable def loopT (h0 : Hd) : List Hd → List Hd → Rat → Nat → Ans
  | p, [], first, size => if size = 0 then .always else .at_ (fract (first * (size : Int)) / ((size : Int) : Rat)) size
  | p, h :: rest, first, size =>
    if h.1 - h0.1 = 0 then (if (h0.2 - h.2).num ≠ 0 then .never [0, (p.length : Int)] else loopT h0 (p ++ [h]) rest first size)
    else if size = 0 then loopT h0 (p ++ [h]) rest ((h0.2 - h.2) / ((h.1 - h0.1 : Int) : Rat)) (h.1 - h0.1).natAbs
    else match broughtF first size (h.1 - h0.1) (h0.2 - h.2) with
      | none => .never (neverF h0 p h)
      | some (f, s) => loopT h0 (p ++ [h]) rest f s
noncomputable def toldF (l : List Hd) : Ans := loopT (l.getD 0 (0, 0)) [] l 0 0
/-- by how much the rates differ -/
def gapF (l : List Hd) : Nat := l.foldl (fun g h => Int.gcd g (h.1 - (l.getD 0 (0, 0)).1)) 0
/-- what told answers -/
def ToldOk (l : List Hd) : Ans → Prop
  | .always => ∀ h ∈ l, h = l.getD 0 (0, 0)
  | .at_ q n => 0 < n ∧ (∀ h ∈ l, (n : Int) ∣ h.1 - (l.getD 0 (0, 0)).1) ∧ (∀ d : Int, (∀ h ∈ l, d ∣ h.1 - (l.getD 0 (0, 0)).1) → d ∣ n) ∧ 0 ≤ q ∧ q * ((n : Int) : Rat) < 1 ∧ ∀ h ∈ l, Sol (l.getD 0 (0, 0)) q h
  | .never ks => ∃ (a b : Nat) (ha hb : Hd), 0 < a ∧ a ≤ b ∧ l[a]? = some ha ∧ l[b]? = some hb ∧ clashF (l.getD 0 (0, 0)) ha hb = true ∧ ks = if a = b then [0, (a : Int)] else [0, (a : Int), (b : Int)]
theorem clash_self (h0 h : Hd) (hr : h.1 - h0.1 ≠ 0) : clashF h0 h0 h = false := by
  unfold clashF
  dsimp only
  rw [Int.sub_self, if_pos (.inl rfl)]
  have e : h0.2 - h0.2 = 0 := by grind
  rw [e]
  simp [hr]
theorem part_diff {a b : Rat} (a0 : 0 ≤ a) (a1 : a < 1) (b0 : 0 ≤ b) (b1 : b < 1) (h : (a - b).den = 1) : a - b = 0 := by
  obtain ⟨n, hn⟩ := wh_den.mpr h
  have h1 : (n : Rat) < ((1 : Int) : Rat) := by
    have e : ((1 : Int) : Rat) = 1 := rfl
    rw [← hn, e]
    grind
  have h2 : ((-1 : Int) : Rat) < (n : Rat) := by
    have e : ((-1 : Int) : Rat) = -1 := rfl
    rw [← hn, e]
    grind
  have h3 := Rat.intCast_lt_intCast.mp h1
  have h4 := Rat.intCast_lt_intCast.mp h2
  have : n = 0 := by omega
  rw [hn, this]
  rfl
theorem told_loop (l : List Hd) (hv : ∀ h ∈ l, 0 ≤ h.2 ∧ h.2 < 1) (h0 : Hd) (e0 : h0 = l.getD 0 (0, 0)) : ∀ (rest p : List Hd) (first : Rat) (size : Nat), l = p ++ rest → InvT h0 p first size → (0 < p.length → (p ++ rest).getD 0 (0, 0) = p.getD 0 (0, 0)) → ToldOk l (loopT h0 p rest first size) := by
  intro rest
  induction rest with
  | nil =>
    intro p first size hl I _
    rw [List.append_nil] at hl
    subst hl
    unfold loopT
    split
    · rename_i hz
      intro h hh
      rw [← e0]
      exact I.zero hz h hh
    · rename_i hz
      have hp : 0 < size := by omega
      have hs : ((size : Int) : Rat) ≠ 0 := by rw [Ne, Rat.intCast_eq_zero_iff]; omega
      have hs0 : (0 : Rat) < ((size : Int) : Rat) := Rat.intCast_pos.mpr (by omega)
      refine ⟨hp, ?_, ?_, ?_, ?_, ?_⟩
      · rw [← e0]; exact I.dvd
      · rw [← e0]; exact I.great
      · have := fract_nonneg (first * ((size : Int) : Rat))
        rw [Rat.div_def]
        exact Rat.mul_nonneg this (Rat.le_of_lt (Rat.inv_pos.mpr hs0))
      · rw [Rat.div_mul_cancel hs]
        exact fract_lt _
      · intro h hh
        rw [← e0]
        have e : fract (first * ((size : Int) : Rat)) / ((size : Int) : Rat) = first + ((-(first * ((size : Int) : Rat)).floor : Int) : Rat) / ((size : Int) : Rat) := by
          unfold fract
          rw [Rat.intCast_neg]
          grind
        rw [e]
        exact sol_shift (I.sol hp h hh) (by omega) (I.dvd h hh)
  | cons h rest ih =>
    intro p first size hl I hp0
    have hl2 : l = (p ++ [h]) ++ rest := by rw [List.append_assoc]; exact hl
    have hget : l[p.length]? = some h := by rw [hl, List.getElem?_append_right (Nat.le_refl _), Nat.sub_self]; rfl
    have hfirst : p = [] → h = h0 := fun z => by
      rw [e0, hl, z]
      rfl
    have hp0' : 0 < (p ++ [h]).length → (p ++ [h] ++ rest).getD 0 (0, 0) = (p ++ [h]).getD 0 (0, 0) := fun _ => by
      cases p <;> rfl
    unfold loopT
    split
    · rename_i hr
      split
      · rename_i hs
        have hpl : 0 < p.length := by
          rcases Nat.eq_zero_or_pos p.length with z | z
          · have := hfirst (List.length_eq_zero_iff.mp z)
            rw [this] at hs
            exfalso
            apply hs
            have e : h0.2 - h0.2 = 0 := by grind
            rw [e]
            rfl
          · exact z
        refine ⟨p.length, p.length, h, h, hpl, Nat.le_refl _, hget, hget, ?_, by rw [if_pos rfl]⟩
        rw [← e0]
        unfold clashF
        dsimp only
        rw [if_pos (.inl hr), decide_eq_true hr]
        have hden : (h0.2 - h.2).den ≠ 1 := by
          intro z
          have m0 : h0 ∈ l := by
            rw [e0, hl]
            cases p with
            | nil => exact absurd hpl (by decide)
            | cons y ys => exact List.mem_cons_self
          have m1 : h ∈ l := List.mem_of_getElem? hget
          have := part_diff (hv h0 m0).1 (hv h0 m0).2 (hv h m1).1 (hv h m1).2 z
          rw [this] at hs
          exact hs rfl
        rw [decide_eq_true hden]
        rfl
      · rename_i hs
        have hs' : h0.2 - h.2 = 0 := by
          apply Rat.num_eq_zero.mp
          omega
        exact ih (p ++ [h]) first size hl2 (inv_same I hr hs') hp0'
    · rename_i hr
      split
      · rename_i hz
        subst hz
        exact ih (p ++ [h]) _ _ hl2 (inv_first I hr) hp0'
      · rename_i hz
        have hzp : 0 < size := by omega
        split
        · rename_i hb
          have hex : ∃ x ∈ p, clashF h0 x h = true := by
            apply Classical.byContradiction
            intro z
            refine helly I hzp hr (fun x hx => ?_) hb
            cases q : clashF h0 x h with
            | false => rfl
            | true => exact absurd ⟨x, hx, q⟩ z
          obtain ⟨x, hx, hcx⟩ := hex
          obtain ⟨j, hj⟩ := List.getElem?_of_mem hx
          have hjl := (List.getElem?_eq_some_iff.mp hj).1
          have hj0 : j ≠ 0 := fun z => by
            subst z
            have : x = h0 := by
              rw [e0, hl, List.getD_eq_getElem?_getD, List.getElem?_append_left hjl, hj]
              rfl
            rw [this, clash_self h0 h hr] at hcx
            cases hcx
          unfold neverF
          split
          · rename_i i hi
            have h1 := List.find?_some hi
            have h2 := List.mem_of_find?_eq_some hi
            rw [List.mem_range] at h2
            have hg : ∃ y, l[i + 1]? = some y ∧ (p ++ [h]).getD (i + 1) h0 = y := by
              refine ⟨(p ++ [h]).getD (i + 1) h0, ?_, rfl⟩
              have hlt : i + 1 < (p ++ [h]).length := by rw [List.length_append, List.length_singleton]; omega
              rw [hl2, List.getElem?_append_left hlt, List.getD_eq_getElem?_getD, List.getElem?_eq_getElem hlt]
              rfl
            obtain ⟨y, hy1, hy2⟩ := hg
            refine ⟨i + 1, p.length, y, h, by omega, by omega, hy1, hget, ?_, ?_⟩
            · rw [← e0, ← hy2]
              exact h1
            · split
              · rename_i e; rw [e]
              · rfl
          · rename_i hi
            exfalso
            have := List.find?_eq_none.mp hi (j - 1) (List.mem_range.mpr (by omega))
            apply this
            have ej : j - 1 + 1 = j := by omega
            rw [ej, List.getD_eq_getElem?_getD, List.getElem?_append_left hjl, hj]
            exact hcx
        · rename_i f s hb
          obtain ⟨I2, hs⟩ := inv_more I hzp hr hb
          exact ih (p ++ [h]) f s hl2 I2 hp0'
theorem told_ok {l : List Hd} (hv : ∀ h ∈ l, 0 ≤ h.2 ∧ h.2 < 1) : ToldOk l (toldF l) :=
  told_loop l hv _ rfl l [] 0 0 rfl (inv_start _) (fun z => absurd z (by decide))
/-! ### the gap -/
theorem fold_gcd (c : Int) : ∀ (l : List Hd) (g : Nat), (∀ h ∈ l, ((l.foldl (fun g h => Int.gcd g (h.1 - c)) g : Nat) : Int) ∣ h.1 - c) ∧ ((l.foldl (fun g h => Int.gcd g (h.1 - c)) g : Nat) : Int) ∣ g ∧
    ∀ d : Int, d ∣ g → (∀ h ∈ l, d ∣ h.1 - c) → d ∣ ((l.foldl (fun g h => Int.gcd g (h.1 - c)) g : Nat) : Int)
  | [], g => ⟨fun h hh => (by cases hh), Int.dvd_refl _, fun d hd _ => hd⟩
  | x :: xs, g => by
    obtain ⟨h1, h2, h3⟩ := fold_gcd c xs (Int.gcd g (x.1 - c))
    rw [List.foldl_cons]
    refine ⟨fun h hh => ?_, Int.dvd_trans h2 (Int.gcd_dvd_left _ _), fun d hd hall => h3 d (Int.dvd_coe_gcd hd (hall x List.mem_cons_self)) fun h hh => hall h (List.mem_cons_of_mem _ hh)⟩
    rcases List.mem_cons.mp hh with e | e
    · rw [e]; exact Int.dvd_trans h2 (Int.gcd_dvd_right _ _)
    · exact h1 h e
theorem gap_dvd {l : List Hd} {h : Hd} (hh : h ∈ l) : (gapF l : Int) ∣ h.1 - (l.getD 0 (0, 0)).1 := (fold_gcd _ l 0).1 h hh
theorem gap_great {l : List Hd} {d : Int} (h : ∀ h ∈ l, d ∣ h.1 - (l.getD 0 (0, 0)).1) : d ∣ (gapF l : Int) := (fold_gcd _ l 0).2.2 d (Int.dvd_zero _) h
/-- the greatest number that goes into all is one -/
theorem gap_unique {l : List Hd} {n : Nat} (h1 : ∀ h ∈ l, (n : Int) ∣ h.1 - (l.getD 0 (0, 0)).1) (h2 : ∀ d : Int, (∀ h ∈ l, d ∣ h.1 - (l.getD 0 (0, 0)).1) → d ∣ n) : n = gapF l := by
  have a := gap_great h1
  have b := h2 (gapF l) fun h hh => gap_dvd hh
  exact Nat.dvd_antisymm (Int.natCast_dvd_natCast.mp a) (Int.natCast_dvd_natCast.mp b)
end HM

/-! Mth4 -/
namespace HM
structure UInv (n s one other first second : Int) : Prop where
  o1 : 0 < one
  o2 : 0 ≤ other
  g : Int.gcd one other = 1
  d1 : s ∣ first * n - one
  d2 : s ∣ second * n - other
  sm : second.natAbs * one.natAbs + first.natAbs * other.natAbs = s.natAbs
  sg : (first ≤ 0 ∧ 0 ≤ second) ∨ (0 ≤ first ∧ second ≤ 0)
theorem uinv_start {n s : Int} (hs : 0 < s) (hg : Int.gcd n s = 1) : UInv n s s (n % s) 0 1 where
  o1 := hs
  o2 := Int.emod_nonneg _ (by omega)
  g := by rw [Int.gcd_comm, gcd_emod]; exact hg
  d1 := ⟨-1, by grind⟩
  d2 := ⟨n / s, by have := Int.emod_add_mul_ediv n s; omega⟩
  sm := by simp
  sg := .inl ⟨by omega, by omega⟩
theorem nonneg_of_sign {a b : Int} (h : (a ≤ 0 ∧ 0 ≤ b) ∨ (0 ≤ a ∧ b ≤ 0)) {k : Int} (hk : 0 ≤ k) : (a - k * b).natAbs = a.natAbs + k.natAbs * b.natAbs := by
  rcases h with ⟨h1, h2⟩ | ⟨h1, h2⟩
  · have hkb : 0 ≤ k * b := Int.mul_nonneg hk h2
    have e : (k * b).natAbs = k.natAbs * b.natAbs := Int.natAbs_mul k b
    omega
  · have hkb : k * b ≤ 0 := Int.mul_nonpos_of_nonneg_of_nonpos hk h2
    have e : (k * b).natAbs = k.natAbs * b.natAbs := Int.natAbs_mul k b
    omega
theorem uinv_step {n s one other first second : Int} (I : UInv n s one other first second) (ho : 0 < other) : UInv n s other (one - one / other * other) second (first - one / other * second) := by
  have e := Int.emod_add_mul_ediv one other
  have e2 : one - one / other * other = one % other := by
    have : one / other * other = other * (one / other) := Int.mul_comm _ _
    omega
  have m1 := Int.emod_nonneg one (show other ≠ 0 by omega)
  have q0 : 0 ≤ one / other := Int.ediv_nonneg (by have := I.o1; omega) (by omega)
  have hab := nonneg_of_sign I.sg q0
  refine ⟨ho, by omega, ?_, I.d2, ?_, ?_, ?_⟩
  · rw [e2, Int.gcd_comm, gcd_emod]; exact I.g
  · obtain ⟨x, hx⟩ := I.d1
    obtain ⟨y, hy⟩ := I.d2
    refine ⟨x - (one / other) * y, ?_⟩
    grind
  · rw [hab, e2, ← I.sm]
    have h1 : (one % other).natAbs + (one / other).natAbs * other.natAbs = one.natAbs := by
      have : (one / other * other).natAbs = (one / other).natAbs * other.natAbs := Int.natAbs_mul _ _
      have h2 : 0 ≤ one / other * other := Int.mul_nonneg q0 (by omega)
      have := I.o1
      omega
    rw [← h1]
    grind
  · rcases I.sg with ⟨h1, h2⟩ | ⟨h1, h2⟩
    · right
      refine ⟨h2, ?_⟩
      have : 0 ≤ one / other * second := Int.mul_nonneg q0 h2
      omega
    · left
      refine ⟨h2, ?_⟩
      have : one / other * second ≤ 0 := Int.mul_nonpos_of_nonneg_of_nonpos q0 h2
      omega
theorem uinv_second {n s one other first second : Int} (I : UInv n s one other first second) : second.natAbs ≤ s.natAbs := by
  have h := I.sm
  have h1 : 1 ≤ one.natAbs := by have := I.o1; omega
  have h2 : second.natAbs * 1 ≤ second.natAbs * one.natAbs := Nat.mul_le_mul_left _ h1
  omega
theorem uinv_end {n s one first second : Int} (hs : 0 < s) (hg : Int.gcd n s = 1) (I : UInv n s one 0 first second) : first % s = invM n s := by
  have h1 : one = 1 := by
    have := I.g
    rw [Int.gcd_zero] at this
    have := I.o1
    omega
  have hd := I.d1
  rw [h1] at hd
  refine inv_unique hs hg ⟨Int.emod_nonneg _ (by omega), Int.emod_lt_of_pos _ hs, ?_⟩ (invM_spec hs hg)
  have e : first % s = first - s * (first / s) := by
    have := Int.emod_add_mul_ediv first s
    omega
  rw [e]
  obtain ⟨k, hk⟩ := hd
  refine ⟨k - n * (first / s), ?_⟩
  grind
/-! ### sizes of times -/
/-- a time at which a hand of another rate is with the first one has few digits below -/
theorem sol_den {m : Int} {q l : Rat} {a b : Nat} (hm : m ≠ 0) (hma : m.natAbs < 2 ^ a) (hl : l.den < 2 ^ b) (h : Wh ((m : Rat) * q - l)) : q.den < 2 ^ (a + b) := by
  have hw : Wh (((m * l.den : Int) : Rat) * q) := by
    obtain ⟨k, hk⟩ := h
    have hq : l = (l.num : Rat) / ((l.den : Int) : Rat) := by rw [← Rat.divInt_eq_div, Rat.num_divInt_den]
    have hd' : ((l.den : Int) : Rat) ≠ 0 := by rw [Ne, Rat.intCast_eq_zero_iff]; have := l.den_pos; omega
    refine ⟨k * l.den + l.num, ?_⟩
    rw [Rat.intCast_mul, Rat.intCast_add, Rat.intCast_mul]
    have : (m : Rat) * q = k + l := by grind
    have e3 : l * ((l.den : Int) : Rat) = l.num := by
      rw (occs := .pos [1]) [hq]
      exact Rat.div_mul_cancel hd'
    grind
  have hdv := Int.dvd_of_emod_eq_zero (wh_mul_iff.mp hw)
  have cop : Int.gcd q.num q.den = 1 := q.reduced
  have dv : (q.den : Int) ∣ m * l.den := by
    obtain ⟨f, hf⟩ := ex_inv (n := q.num) (s := (q.den : Int)) (q.num % q.den).toNat q.den (q.num % q.den) 0 1 (Nat.le_refl _) (Int.emod_nonneg _ (by have := q.den_pos; omega)) (by omega) ⟨-1, by grind⟩ ⟨q.num / q.den, by
      have := Int.emod_add_mul_ediv q.num q.den
      omega⟩
    have e1 : Int.gcd (q.den : Int) (q.num % q.den) = 1 := by rw [Int.gcd_comm, gcd_emod]; exact cop
    rw [e1] at hf
    obtain ⟨k, hk⟩ := hf
    obtain ⟨y, hy⟩ := hdv
    refine ⟨f * y - k * (m * l.den), ?_⟩
    have : ((1 : Nat) : Int) = 1 := rfl
    rw [this] at hk
    grind
  have hne : m * (l.den : Int) ≠ 0 := by
    have := l.den_pos
    exact Int.mul_ne_zero hm (by omega)
  have hle : q.den ≤ (m * (l.den : Int)).natAbs := by
    have := Int.natAbs_dvd_natAbs.mpr dv
    exact Nat.le_of_dvd (by omega) this
  rw [Int.natAbs_mul] at hle
  have := mul_lt_pow hma hl
  have e : (l.den : Int).natAbs = l.den := rfl
  rw [e] at hle
  omega
/-- and few above, if it isn't far -/
theorem val_num {q : Rat} {k : Int} {a b : Nat} (hd : q.den < 2 ^ a) (hk : k.natAbs < 2 ^ b) (h1 : -(k : Rat) ≤ q) (h2 : q ≤ k) : Bd (a + b) q := by
  refine ⟨?_, Nat.lt_of_lt_of_le hd (Nat.pow_le_pow_right (by decide) (by omega))⟩
  have hd0 : (0 : Int) < q.den := by have := q.den_pos; omega
  have e2 : q.num ≤ k * q.den := by
    have := (Rat.le_iff q k).mp h2
    simpa using this
  have e1 : -(k * q.den) ≤ q.num := by
    have := (Rat.le_iff (-(k : Rat)) q).mp h1
    rw [Rat.neg_num, Rat.neg_den] at this
    have t : -k * (q.den : Int) ≤ q.num * 1 := by simpa using this
    have t2 : -k * (q.den : Int) = -(k * q.den) := Int.neg_mul _ _
    omega
  have h : q.num.natAbs ≤ (k * (q.den : Int)).natAbs := by omega
  rw [Int.natAbs_mul] at h
  have := mul_lt_pow hk hd
  have e : (q.den : Int).natAbs = q.den := rfl
  rw [e] at h
  rw [Nat.add_comm]
  omega
theorem turn_bd {turn size : Int} (h0 : 0 ≤ turn) (h1 : turn < size) : 0 ≤ Rat.divInt turn size ∧ Rat.divInt turn size < 1 := by
  have hs : (0 : Rat) < (size : Rat) := Rat.intCast_pos.mpr (by omega)
  rw [Rat.divInt_eq_div]
  constructor
  · rw [Rat.div_def]
    exact Rat.mul_nonneg (Rat.intCast_nonneg.mpr h0) (Rat.le_of_lt (Rat.inv_pos.mpr hs))
  · rw [Rat.div_lt_iff hs]
    have : (turn : Rat) < (size : Rat) := Rat.intCast_lt_intCast.mpr h1
    grind
theorem wide_facts {size : Nat} {more : Int} (hz : 0 < size) : 0 < (Int.gcd size more : Int) ∧ (Int.gcd size more : Int) ≤ size ∧ 0 < (size : Int) / (Int.gcd size more : Int) ∧ (size : Int) / (Int.gcd size more : Int) ≤ size ∧ Int.gcd (more / (Int.gcd size more : Int)) ((size : Int) / (Int.gcd size more : Int)) = 1 := by
  have g0 : 0 < Int.gcd size more := by
    apply Nat.pos_of_ne_zero
    rw [Ne, Int.gcd_eq_zero_iff]
    omega
  have gl : Int.gcd size more ≤ size := Nat.le_of_dvd hz (Int.gcd_dvd_natAbs_left size more)
  have d1 : (Int.gcd size more : Int) ∣ (size : Int) := Int.gcd_dvd_left _ _
  have c := Int.gcd_ediv_gcd_ediv_gcd g0
  refine ⟨by omega, by omega, ?_, ?_, by rw [Int.gcd_comm]; exact c⟩
  · exact Int.ediv_pos_of_pos_of_dvd (by omega) (by omega) d1
  · exact Int.ediv_le_self _ (by omega)
theorem brought_bd {first lack f' : Rat} {size s' : Nat} {more : Int} (hz : 0 < size) (hb : broughtF first size more lack = some (f', s')) : first ≤ f' ∧ f' ≤ first + 1 ∧ s' ≤ size ∧ 0 < s' := by
  unfold broughtF at hb
  dsimp only at hb
  split at hb
  · cases hb
  · injection hb with hb
    injection hb with hf hs
    obtain ⟨w1, w2, w3, w4, w5⟩ := wide_facts (more := more) hz
    have t1 := Int.emod_nonneg ((size : Int) / (Int.gcd size more : Int) * (lack - first * (more : Rat)).num / ((lack - first * (more : Rat)).den : Int) * invM (more / (Int.gcd size more : Int)) ((size : Int) / (Int.gcd size more : Int))) (show (size : Int) / (Int.gcd size more : Int) ≠ 0 by omega)
    have t2 := Int.emod_lt_of_pos ((size : Int) / (Int.gcd size more : Int) * (lack - first * (more : Rat)).num / ((lack - first * (more : Rat)).den : Int) * invM (more / (Int.gcd size more : Int)) ((size : Int) / (Int.gcd size more : Int))) w3
    obtain ⟨b1, b2⟩ := turn_bd t1 (Int.lt_of_lt_of_le t2 w4)
    rw [← hf]
    refine ⟨by grind, by grind, by omega, by omega⟩
theorem first_made {l : Rat} {m : Int} (hm : m ≠ 0) : Rat.divInt (if 0 < m then l.num else -l.num) ((l.den : Int) * (m.natAbs : Int)) = l / (m : Rat) := by
  have hq : l = (l.num : Rat) / ((l.den : Int) : Rat) := by rw [← Rat.divInt_eq_div, Rat.num_divInt_den]
  have hd' : ((l.den : Int) : Rat) ≠ 0 := by rw [Ne, Rat.intCast_eq_zero_iff]; have := l.den_pos; omega
  have hm' : (m : Rat) ≠ 0 := by rw [Ne, Rat.intCast_eq_zero_iff]; exact hm
  rw [Rat.divInt_eq_div]
  split
  · rename_i h
    have e : (m.natAbs : Int) = m := by omega
    rw [e, Rat.intCast_mul]
    rw (occs := .pos [3]) [hq]
    grind
  · rename_i h
    have e : (m.natAbs : Int) = -m := by omega
    rw [e, Rat.intCast_mul, Rat.intCast_neg, Rat.intCast_neg]
    rw (occs := .pos [3]) [hq]
    grind
theorem less_made {q : Rat} {n : Nat} (hn : 0 < n) : Rat.divInt q.num ((q.den : Int) * (n : Int)) = q / ((n : Int) : Rat) := by
  have := first_made (l := q) (m := (n : Int)) (by omega)
  rw [if_pos (by omega)] at this
  have e : ((n : Int).natAbs : Int) = n := by omega
  rw [e] at this
  exact this
/-- what is told has few digits -/
theorem told_bd {l : List Hd} {q : Rat} {n : Nat} (hb : ∀ h ∈ l, h.2.den < 2 ^ 200 ∧ h.2.num.natAbs < 2 ^ 200 ∧ h.1.natAbs < 2 ^ 100) (h : ToldOk l (.at_ q n)) : Bd 510 q ∧ n < 2 ^ 101 := by
  obtain ⟨h0, h1, h2, h3, h4, h5⟩ := h
  have ex : ∃ x ∈ l, x.1 - (l.getD 0 (0, 0)).1 ≠ 0 := by
    apply Classical.byContradiction
    intro z
    have := h2 0 fun x hx => by
      have : x.1 - (l.getD 0 (0, 0)).1 = 0 := Classical.byContradiction fun y => z ⟨x, hx, y⟩
      rw [this]
      exact Int.dvd_refl _
    have := Int.zero_dvd.mp this
    omega
  obtain ⟨x, hx, hne⟩ := ex
  have hl0 : l.getD 0 (0, 0) ∈ l := by
    cases l with
    | nil => cases hx
    | cons y ys => exact List.mem_cons_self
  obtain ⟨a1, a2, a3⟩ := hb x hx
  obtain ⟨b1, b2, b3⟩ := hb _ hl0
  have hm : (x.1 - (l.getD 0 (0, 0)).1).natAbs < 2 ^ 101 := by
    rw [Nat.pow_succ]
    omega
  have hbd : Bd 401 ((l.getD 0 (0, 0)).2 - x.2) := Bd.sub ⟨b2, b1⟩ ⟨a2, a1⟩
  have hden := sol_den hne hm hbd.de (h5 x hx)
  have hn : n < 2 ^ 101 := by
    have := Int.natAbs_dvd_natAbs.mpr (h1 x hx)
    have := Nat.le_of_dvd (by omega) this
    omega
  have hq1 : q ≤ ((1 : Int) : Rat) := by
    have e : ((1 : Int) : Rat) = 1 := rfl
    rw [e]
    have hn1 : (1 : Rat) ≤ ((n : Int) : Rat) := by
      have : ((1 : Int) : Rat) ≤ ((n : Int) : Rat) := Rat.intCast_le_intCast.mpr (by omega)
      exact this
    have : q * 1 ≤ q * ((n : Int) : Rat) := Rat.mul_le_mul_of_nonneg_left hn1 h3
    grind
  have hq0 : -((1 : Int) : Rat) ≤ q := by
    have e : ((1 : Int) : Rat) = 1 := rfl
    rw [e]
    grind
  exact ⟨(val_num (b := 1) hden (by decide) hq0 hq1).mono (by decide), hn⟩
/-- the next time, and how often -/
def nextF (q : Rat) (n : Nat) (t : Rat) : Rat := t + (if 0 < (fract ((q + -t) * ((n : Int) : Rat)) / ((n : Int) : Rat)).num then fract ((q + -t) * ((n : Int) : Rat)) / ((n : Int) : Rat) else Rat.divInt 1 n)
def cnt (q : Rat) (n : Nat) (t : Rat) : Int := -(-((t + -q) * ((n : Int) : Rat)).num / (((t + -q) * ((n : Int) : Rat)).den : Int))
theorem one_made {n : Nat} (hn : 0 < n) : (Rat.divInt 1 (n : Int)).num = 1 ∧ ((Rat.divInt 1 (n : Int)).den : Int) = n := by
  have h : (0 : Int) < n := by omega
  have g : Int.gcd 1 (n : Int) = 1 := Int.gcd_one_left _
  rw [made_num h, made_den h, g]
  simp
theorem div_small {l : Rat} {m : Int} (hm : m ≠ 0) (h1 : -1 ≤ l) (h2 : l ≤ 1) : -1 ≤ l / (m : Rat) ∧ l / (m : Rat) ≤ 1 := by
  have hm' : (m : Rat) ≠ 0 := by rw [Ne, Rat.intCast_eq_zero_iff]; exact hm
  have e : l / (m : Rat) * m = l := Rat.div_mul_cancel hm'
  generalize l / (m : Rat) = q at *
  have key : ∀ (q x : Rat), 1 ≤ x → -1 ≤ q * x → q * x ≤ 1 → -1 ≤ q ∧ q ≤ 1 := fun q x hx a b => by
    constructor
    · apply Rat.not_lt.mp
      intro z
      have : q * x ≤ q * 1 := by
        have := Rat.mul_le_mul_of_nonneg_left (c := -q) hx (by grind)
        grind
      grind
    · apply Rat.not_lt.mp
      intro z
      have := Rat.mul_le_mul_of_nonneg_left (c := q) hx (by grind)
      grind
  rcases Int.lt_or_gt_of_ne hm with h | h
  · have hx : (1 : Rat) ≤ -(m : Rat) := by
      have : ((1 : Int) : Rat) ≤ ((-m : Int) : Rat) := Rat.intCast_le_intCast.mpr (by omega)
      rw [Rat.intCast_neg] at this
      exact this
    obtain ⟨a, b⟩ := key (-q) (-(m : Rat)) hx (by grind) (by grind)
    constructor <;> grind
  · have hx : (1 : Rat) ≤ (m : Rat) := by
      have : ((1 : Int) : Rat) ≤ (m : Rat) := Rat.intCast_le_intCast.mpr (by omega)
      exact this
    exact key q m hx (by grind) (by grind)
theorem cast_ge {i : Nat} {q : Rat} (h : q ≤ 1) : q ≤ (((i + 1 : Nat) : Int) : Rat) := by
  have : ((1 : Int) : Rat) ≤ (((i + 1 : Nat) : Int) : Rat) := Rat.intCast_le_intCast.mpr (by omega)
  have e : ((1 : Int) : Rat) = 1 := rfl
  grind
theorem cast_le {i : Nat} {q : Rat} (h : -1 ≤ q) : -(((i + 1 : Nat) : Int) : Rat) ≤ q := by
  have : ((1 : Int) : Rat) ≤ (((i + 1 : Nat) : Int) : Rat) := Rat.intCast_le_intCast.mpr (by omega)
  have e : ((1 : Int) : Rat) = 1 := rfl
  grind
theorem cast_succ (i : Nat) : (((i + 1 : Nat) : Int) : Rat) = ((i : Int) : Rat) + 1 := by
  have : ((i + 1 : Nat) : Int) = (i : Int) + 1 := by omega
  rw [this, Rat.intCast_add]
  rfl
end HM

/-! Mth5 -/
namespace HM
/-! ### places by the laws -/
theorem law_at_made (s t : Rat) (r : Int) : Rat.divInt ((s.num * t.den + r * t.num * s.den) % ((s.den : Int) * t.den)) ((s.den : Int) * t.den) = fract (s + t * r) := by
  have hs : (0 : Int) < s.den := by have := s.den_pos; omega
  have ht : (0 : Int) < t.den := by have := t.den_pos; omega
  rw [fract_made (Int.mul_pos hs ht)]
  congr 1
  have h := Rat.divInt_add_divInt s.num (t.num * r) (d₁ := (s.den : Int)) (d₂ := (t.den : Int)) (by omega) (by omega)
  rw [Rat.num_divInt_den, times_made] at h
  rw [h]
  congr 1
  grind
theorem sol_iff {h0 h : Hd} {t : Rat} : plc h t = plc h0 t ↔ Sol h0 t h := by
  unfold plc Sol
  rw [fract_eq_wh]
  have e : h.2 + t * (h.1 : Rat) - (h0.2 + t * (h0.1 : Rat)) = ((h.1 - h0.1 : Int) : Rat) * t - (h0.2 - h.2) := by
    rw [Rat.intCast_sub]
    grind
  rw [e]
theorem wh_den_dvd {x : Rat} {m : Int} : Wh ((m : Rat) * x) ↔ (x.den : Int) ∣ m := by
  have hd : (0 : Int) < x.den := by have := x.den_pos; omega
  constructor
  · intro h
    have hdv := Int.dvd_of_emod_eq_zero (wh_mul_iff.mp h)
    have cop : Int.gcd x.num x.den = 1 := x.reduced
    obtain ⟨f, hf⟩ := ex_inv (n := x.num) (s := (x.den : Int)) (x.num % x.den).toNat x.den (x.num % x.den) 0 1 (Nat.le_refl _) (Int.emod_nonneg _ (by omega)) (by omega) ⟨-1, by grind⟩ ⟨x.num / x.den, by
      have := Int.emod_add_mul_ediv x.num x.den
      omega⟩
    have e1 : Int.gcd (x.den : Int) (x.num % x.den) = 1 := by rw [Int.gcd_comm, gcd_emod]; exact cop
    rw [e1] at hf
    obtain ⟨k, hk⟩ := hf
    obtain ⟨y, hy⟩ := hdv
    refine ⟨f * y - k * m, ?_⟩
    have : ((1 : Nat) : Int) = 1 := rfl
    rw [this] at hk
    grind
  · rintro ⟨k, rfl⟩
    apply wh_mul_iff.mpr
    rw [Int.mul_assoc]
    exact Int.mul_emod_right _ _
/-- all hands at one place -/
def togB (l : List Hd) (t : Rat) : Bool := l.all fun h => decide (plc h t = plc (l.getD 0 (0, 0)) t)
theorem togB_iff {l : List Hd} {t : Rat} : togB l t = true ↔ ∀ h ∈ l, Sol (l.getD 0 (0, 0)) t h := by
  unfold togB
  rw [List.all_eq_true]
  constructor
  · intro h x hx
    exact sol_iff.mp (of_decide_eq_true (h x hx))
  · intro h x hx
    exact decide_eq_true (sol_iff.mpr (h x hx))
/-- all together just at the told times -/
theorem at_times {l : List Hd} {q : Rat} {n : Nat} (h : ToldOk l (.at_ q n)) (t : Rat) : togB l t = true ↔ Wh (((n : Int) : Rat) * (t - q)) := by
  obtain ⟨h0, h1, h2, h3, h4, h5⟩ := h
  rw [togB_iff]
  constructor
  · intro hs
    rw [wh_den_dvd]
    refine h2 _ fun x hx => ?_
    rw [← wh_den_dvd]
    have a := hs x hx
    have b := h5 x hx
    unfold Sol at a b
    have := a.sub b
    have e : ∀ (m a b c : Rat), m * a - c - (m * b - c) = m * (a - b) := fun m a b c => by grind
    rwa [e] at this
  · intro hw x hx
    have b := h5 x hx
    unfold Sol at b ⊢
    have hd := Int.dvd_trans (wh_den_dvd.mp hw) (h1 x hx)
    have := (wh_den_dvd.mpr hd).add b
    have e : ∀ (m a b c : Rat), m * (a - b) + (m * b - c) = m * a - c := fun m a b c => by grind
    rwa [e] at this
/-- never: at no time -/
theorem never_times {l : List Hd} {ks : List Int} (h : ToldOk l (.never ks)) (t : Rat) : togB l t = false := by
  obtain ⟨a, b, ha, hb, h1, h2, h3, h4, h5, h6⟩ := h
  cases q : togB l t with
  | false => rfl
  | true =>
    have := togB_iff.mp q
    exact absurd ⟨this ha (List.mem_of_getElem? h3), this hb (List.mem_of_getElem? h4)⟩ (clash_never h5 t)
theorem always_times {l : List Hd} (h : ToldOk l .always) (t : Rat) : togB l t = true := by
  rw [togB_iff]
  intro x hx
  rw [h x hx]
  exact sol_self _ _
end HM

/-! Mth6 -/
namespace HM
/-! ### law k05: few hands -/
def fewH (s c : Int) : Hd := let n := if s / 4 % 2 = 0 then c / 5 else c * c + s; (n % 5, Rat.divInt (n / 5 % 4) 4)
def fewF (ns : List Int) : List Hd := (ns.take (1 + (ns.sum % 4).toNat)).map (fewH ns.sum)
structure Few (h : Hd) : Prop where
  r0 : 0 ≤ h.1
  r4 : h.1 ≤ 4
  s0 : 0 ≤ h.2
  s1 : h.2 < 1
  q4 : Wh (((4 : Int) : Rat) * h.2)
  d4 : h.2.den ≤ 4
  n4 : h.2.num.natAbs ≤ 4
theorem few_h (s c : Int) : Few (fewH s c) := by
  unfold fewH
  dsimp only
  generalize (if s / 4 % 2 = 0 then c / 5 else c * c + s) = n
  have m1 := Int.emod_nonneg n (show (5 : Int) ≠ 0 by decide)
  have m2 := Int.emod_lt_of_pos n (show (0 : Int) < 5 by decide)
  have k1 := Int.emod_nonneg (n / 5) (show (4 : Int) ≠ 0 by decide)
  have k2 := Int.emod_lt_of_pos (n / 5) (show (0 : Int) < 4 by decide)
  generalize n / 5 % 4 = k at *
  have h4 : k = 0 ∨ k = 1 ∨ k = 2 ∨ k = 3 := by omega
  refine ⟨m1, by dsimp only; omega, ?_, ?_, ?_, ?_, ?_⟩
  · exact (turn_bd k1 k2).1
  · exact (turn_bd k1 k2).2
  · refine ⟨k, ?_⟩
    dsimp only
    rw [Rat.divInt_eq_div]
    have : ((4 : Int) : Rat) ≠ 0 := by decide
    grind
  · show (Rat.divInt k 4).den ≤ 4
    rcases h4 with e | e | e | e <;> subst e <;> decide
  · show (Rat.divInt k 4).num.natAbs ≤ 4
    rcases h4 with e | e | e | e <;> subst e <;> decide
theorem few_all {ns : List Int} : ∀ h ∈ fewF ns, Few h := fun h hh => by
  obtain ⟨c, _, rfl⟩ := List.mem_map.mp hh
  exact few_h _ c
theorem few_len (ns : List Int) : (fewF ns).length ≤ 4 := by
  unfold fewF
  rw [List.length_map, List.length_take]
  have k2 := Int.emod_lt_of_pos ns.sum (show (0 : Int) < 4 by decide)
  omega
/-- the times of a day, in forty-eighth parts -/
def timesF (l : List Hd) : List Rat := ((List.range 48).filter fun p => togB l (Rat.divInt (p : Nat) 48)).map fun p => Rat.divInt (p : Nat) 48
theorem filt48 : ∀ n : Fin 5, 0 < n.val → ∀ a : Fin 48, a.val < 48 / n.val → (List.range 48).filter (fun p => p % (48 / n.val) == a.val) = (List.range n.val).map fun k => a.val + k * (48 / n.val) := by decide +kernel
theorem few_times {l : List Hd} {q : Rat} {n : Nat} (hf : ∀ h ∈ l, Few h) (h : ToldOk l (.at_ q n)) : timesF l = (List.range n).map fun (k : Nat) => q + ((k : Int) : Rat) / ((n : Int) : Rat) := by
  obtain ⟨h0, h1, h2, h3, h4, h5⟩ := id h
  have ex : ∃ x ∈ l, x.1 - (l.getD 0 (0, 0)).1 ≠ 0 := by
    apply Classical.byContradiction
    intro z
    have := h2 0 fun x hx => by
      have : x.1 - (l.getD 0 (0, 0)).1 = 0 := Classical.byContradiction fun y => z ⟨x, hx, y⟩
      rw [this]
      exact Int.dvd_refl _
    have := Int.zero_dvd.mp this
    omega
  obtain ⟨x, hx, hne⟩ := ex
  have hl0 : l.getD 0 (0, 0) ∈ l := by
    cases l with
    | nil => cases hx
    | cons y ys => exact List.mem_cons_self
  have fx := hf x hx
  have f0 := hf _ hl0
  have hd := h1 x hx
  have hsol := h5 x hx
  unfold Sol at hsol
  generalize hz : l.getD 0 (0, 0) = z0 at *
  generalize hm : x.1 - z0.1 = m at *
  have m4 : -4 ≤ m ∧ m ≤ 4 := by have := fx.r0; have := fx.r4; have := f0.r0; have := f0.r4; omega
  have n4 : n ≤ 4 := by
    have := Nat.le_of_dvd (by omega) (Int.natAbs_dvd_natAbs.mpr hd)
    omega
  -- 48 q is whole
  have w48 : Wh (((48 : Int) : Rat) * q) := by
    have w4 : Wh (((4 * m : Int) : Rat) * q) := by
      obtain ⟨a, ha⟩ := hsol
      obtain ⟨b, hb⟩ := f0.q4
      obtain ⟨c, hc⟩ := fx.q4
      refine ⟨4 * a + (b - c), ?_⟩
      rw [Rat.intCast_mul, Rat.intCast_add, Rat.intCast_mul, Rat.intCast_sub]
      grind
    have : (4 * m) ∣ 48 := by
      have : m = -4 ∨ m = -3 ∨ m = -2 ∨ m = -1 ∨ m = 1 ∨ m = 2 ∨ m = 3 ∨ m = 4 := by omega
      rcases this with e | e | e | e | e | e | e | e <;> subst e <;> decide
    exact wh_den_dvd.mpr (Int.dvd_trans (wh_den_dvd.mp w4) this)
  obtain ⟨a, ha⟩ := w48
  have e48 : ((48 : Int) : Rat) = 48 := rfl
  have hn0 : ((n : Int) : Rat) ≠ 0 := by rw [Ne, Rat.intCast_eq_zero_iff]; omega
  have hnp : (0 : Rat) < ((n : Int) : Rat) := Rat.intCast_pos.mpr (by omega)
  have q48 : q = (a : Rat) / 48 := by grind
  have a0 : 0 ≤ a := by
    have : ((0 : Int) : Rat) ≤ (a : Rat) := by
      rw [← ha]
      exact Rat.mul_nonneg (by decide) h3
    exact Rat.intCast_le_intCast.mp this
  obtain ⟨s, hs⟩ : ∃ s : Nat, 48 = n * s := by
    have : n = 1 ∨ n = 2 ∨ n = 3 ∨ n = 4 := by omega
    rcases this with e | e | e | e <;> subst e
    · exact ⟨48, rfl⟩
    · exact ⟨24, rfl⟩
    · exact ⟨16, rfl⟩
    · exact ⟨12, rfl⟩
  have sdiv : 48 / n = s := by rw [hs]; exact Nat.mul_div_cancel_left s h0
  have s48 : s ≤ 48 := by rw [hs]; exact Nat.le_mul_of_pos_left s h0
  have sp : 0 < s := by
    rcases Nat.eq_zero_or_pos s with z | z
    · rw [z] at hs; omega
    · exact z
  have ns48 : ((n : Int) : Rat) * ((s : Int) : Rat) = 48 := by
    have : ((48 : Nat) : Int) = (n : Int) * (s : Int) := by rw [hs]; omega
    have e2 : (((48 : Nat) : Int) : Rat) = ((n : Int) : Rat) * ((s : Int) : Rat) := by rw [this, Rat.intCast_mul]
    rw [← e2]
    rfl
  have as : a < s := by
    have : (a : Rat) * ((n : Int) : Rat) < ((s : Int) : Rat) * ((n : Int) : Rat) := by
      have h48 : (48 : Rat) * (q * ((n : Int) : Rat)) < 48 * 1 := Rat.mul_lt_mul_of_pos_left h4 (by decide)
      rw [← ha, e48]
      grind
    have := (Rat.mul_lt_mul_right hnp).mp this
    exact Rat.intCast_lt_intCast.mp this
  obtain ⟨an, rfl⟩ : ∃ an : Nat, a = an := ⟨a.toNat, by omega⟩
  unfold timesF
  have ef : ((List.range 48).filter fun p => togB l (Rat.divInt (p : Nat) 48)) = (List.range n).map fun k => an + k * s := by
    have f := filt48 ⟨n, by omega⟩ h0 ⟨an, by omega⟩ (by dsimp only; rw [sdiv]; omega)
    dsimp only at f
    rw [sdiv] at f
    rw [← f]
    apply List.filter_congr
    intro p hp
    rw [List.mem_range] at hp
    have key : togB l (Rat.divInt (p : Nat) 48) = true ↔ p % s = an := by
      rw [at_times h, Rat.divInt_eq_div, q48]
      have e1 : ((n : Int) : Rat) * (((p : Nat) : Int) / ((48 : Int) : Rat) - ((an : Int) : Rat) / 48) = ((((p : Nat) : Int) - (an : Int) : Int) : Rat) / ((s : Int) : Rat) := by
        have s0 : ((s : Int) : Rat) ≠ 0 := by rw [Ne, Rat.intCast_eq_zero_iff]; omega
        rw [Rat.intCast_sub, e48, ← ns48]
        grind
      rw [e1]
      constructor
      · rintro ⟨k, hk⟩
        have s0 : ((s : Int) : Rat) ≠ 0 := by rw [Ne, Rat.intCast_eq_zero_iff]; omega
        have e2 : ((((p : Nat) : Int) - (an : Int) : Int) : Rat) = ((k * s : Int) : Rat) := by
          rw [Rat.intCast_mul, ← hk]
          grind
        have e3 := Rat.intCast_inj.mp e2
        have e4 : (p : Int) % (s : Int) = an := by
          have : (p : Int) = an + k * s := by omega
          rw [this, Int.add_mul_emod_self_right]
          exact Int.emod_eq_of_lt (by omega) (by omega)
        omega
      · intro hk
        have e4 := Nat.div_add_mod p s
        rw [hk] at e4
        refine ⟨((p / s : Nat) : Int), ?_⟩
        have s0 : ((s : Int) : Rat) ≠ 0 := by rw [Ne, Rat.intCast_eq_zero_iff]; omega
        have e5 : ((p : Nat) : Int) - (an : Int) = ((p / s : Nat) : Int) * (s : Int) := by
          have : ((s * (p / s) : Nat) : Int) = (s : Int) * ((p / s : Nat) : Int) := by simp
          have c := Int.mul_comm (s : Int) ((p / s : Nat) : Int)
          omega
        rw [e5, Rat.intCast_mul]
        grind
    cases c : (p % s == an) with
    | true => exact key.mpr (beq_iff_eq.mp c)
    | false =>
      cases c2 : togB l (Rat.divInt (p : Nat) 48) with
      | false => rfl
      | true =>
        have := key.mp c2
        rw [this] at c
        simp at c
  rw [ef, List.map_map]
  apply List.map_congr_left
  intro k hk
  show Rat.divInt ((an + k * s : Nat) : Int) 48 = _
  rw [Rat.divInt_eq_div, q48]
  have s0 : ((s : Int) : Rat) ≠ 0 := by rw [Ne, Rat.intCast_eq_zero_iff]; omega
  have e5 : ((an + k * s : Nat) : Int) = (an : Int) + (k : Int) * (s : Int) := by simp
  rw [e5, Rat.intCast_add, Rat.intCast_mul, e48, ← ns48]
  grind
/-! ### what is asked -/
theorem always_iff {l : List Hd} (ok : ToldOk l (toldF l)) : toldF l = .always ↔ ∀ h ∈ l, h = l.getD 0 (0, 0) := by
  constructor
  · intro e
    rw [e] at ok
    exact ok
  · intro h
    cases q : toldF l with
    | always => rfl
    | at_ a n =>
      exfalso
      rw [q] at ok
      obtain ⟨h0, _, h2, _⟩ := ok
      have := h2 0 fun x hx => by rw [h x hx, Int.sub_self]; exact Int.dvd_refl _
      have := Int.zero_dvd.mp this
      omega
    | never ks =>
      exfalso
      rw [q] at ok
      obtain ⟨a, b, ha, hb, _, _, h3, h4, h5, _⟩ := ok
      rw [h ha (List.mem_of_getElem? h3), h hb (List.mem_of_getElem? h4)] at h5
      exact clash_never h5 0 ⟨sol_self _ _, sol_self _ _⟩
theorem floor_cnt (q : Rat) (n : Nat) (t : Rat) : cnt q n t = -((-((t + -q) * ((n : Int) : Rat))).floor) := by
  unfold cnt
  rw [Rat.floor_def, Rat.neg_num, Rat.neg_den]
theorem cnt_zero {q : Rat} {n : Nat} (h0 : 0 ≤ q) (h1 : q * ((n : Int) : Rat) < 1) : cnt q n 0 = 0 := by
  rw [floor_cnt]
  have hn : (0 : Rat) ≤ ((n : Int) : Rat) := Rat.intCast_nonneg.mpr (by omega)
  have e : -((0 + -q) * ((n : Int) : Rat)) = q * ((n : Int) : Rat) := by grind
  rw [e]
  have a : (0 : Int) ≤ (q * ((n : Int) : Rat)).floor := Rat.le_floor_iff.mpr (Rat.mul_nonneg h0 hn)
  have b : (q * ((n : Int) : Rat)).floor < 1 := Rat.floor_lt_iff.mpr h1
  omega
theorem cnt_one {q : Rat} {n : Nat} (h0 : 0 ≤ q) (h1 : q * ((n : Int) : Rat) < 1) : cnt q n 1 = n := by
  rw [floor_cnt]
  have hn : (0 : Rat) ≤ ((n : Int) : Rat) := Rat.intCast_nonneg.mpr (by omega)
  have e : -((1 + -q) * ((n : Int) : Rat)) = q * ((n : Int) : Rat) + ((-(n : Int) : Int) : Rat) := by rw [Rat.intCast_neg]; grind
  rw [e, Rat.floor_add_intCast]
  have a : (0 : Int) ≤ (q * ((n : Int) : Rat)).floor := Rat.le_floor_iff.mpr (Rat.mul_nonneg h0 hn)
  have b : (q * ((n : Int) : Rat)).floor < 1 := Rat.floor_lt_iff.mpr h1
  omega
theorem fract_int (k : Int) : fract (k : Rat) = 0 := by
  unfold fract
  rw [Rat.floor_intCast]
  grind
theorem next_at {q : Rat} {n k : Nat} (hn : 0 < n) : nextF q n (q + ((k : Int) : Rat) / ((n : Int) : Rat)) = q + (((k + 1 : Nat) : Int) : Rat) / ((n : Int) : Rat) := by
  have hn0 : ((n : Int) : Rat) ≠ 0 := by rw [Ne, Rat.intCast_eq_zero_iff]; omega
  unfold nextF
  have e : (q + -(q + ((k : Int) : Rat) / ((n : Int) : Rat))) * ((n : Int) : Rat) = ((-(k : Int) : Int) : Rat) := by
    rw [Rat.intCast_neg]
    grind
  rw [e, fract_int]
  have e0 : (0 : Rat) / ((n : Int) : Rat) = 0 := by grind
  rw [e0, if_neg (by decide), Rat.divInt_eq_div, cast_succ]
  have e1 : ((1 : Int) : Rat) = 1 := rfl
  rw [e1]
  grind
theorem again_made (q : Rat) : Rat.divInt (q.num + q.den) q.den = q + 1 := by
  have h := Rat.divInt_add_divInt q.num 1 (d₁ := (q.den : Int)) (d₂ := 1) (by have := q.den_pos; omega) (by decide)
  rw [Rat.num_divInt_den] at h
  have e : Rat.divInt 1 1 = 1 := rfl
  rw [e] at h
  rw [h, Int.mul_one, Int.one_mul, Int.mul_one]
def triB (l : List Hd) (a b c : Nat) : Bool := !(timesF [l.getD a (0, 0), l.getD b (0, 0), l.getD c (0, 0)]).isEmpty
def threesF (l : List Hd) : List Bool := (List.range l.length).flatMap fun a => (List.range a).flatMap fun b => (List.range (b + 1)).map fun c => triB l a b c
theorem mem_getD {l : List Hd} {a : Nat} (h : a < l.length) : l.getD a (0, 0) ∈ l := by
  rw [List.getD_eq_getElem?_getD, List.getElem?_eq_getElem h]
  exact List.getElem_mem h
theorem tog_sub {l m : List Hd} {t : Rat} (h : togB l t = true) (hm : ∀ x ∈ m, x ∈ l) : togB m t = true := by
  rw [togB_iff] at h
  unfold togB
  rw [List.all_eq_true]
  intro x hx
  apply decide_eq_true
  have e1 := sol_iff.mpr (h x (hm x hx))
  have hm0 : m.getD 0 (0, 0) ∈ m := by
    cases m with
    | nil => cases hx
    | cons y ys => exact List.mem_cons_self
  have e2 := sol_iff.mpr (h _ (hm _ hm0))
  rw [e1, e2]
theorem times_ne {l : List Hd} : (timesF l).isEmpty = false ↔ ∃ p, p < 48 ∧ togB l (Rat.divInt (p : Nat) 48) = true := by
  unfold timesF
  rw [List.isEmpty_eq_false_iff, Ne, List.map_eq_nil_iff, List.filter_eq_nil_iff]
  constructor
  · intro h
    apply Classical.byContradiction
    intro z
    exact h fun p hp q => z ⟨p, List.mem_range.mp hp, q⟩
  · rintro ⟨p, hp, q⟩ h
    exact h p (List.mem_range.mpr hp) q
theorem threes_at {l : List Hd} (h : (timesF l).isEmpty = false) : (threesF l).all id = true := by
  obtain ⟨p, hp, ht⟩ := times_ne.mp h
  rw [List.all_eq_true]
  intro v hv
  unfold threesF at hv
  obtain ⟨a, ha, hv⟩ := List.mem_flatMap.mp hv
  obtain ⟨b, hb, hv⟩ := List.mem_flatMap.mp hv
  obtain ⟨c, hc, rfl⟩ := List.mem_map.mp hv
  rw [List.mem_range] at ha hb hc
  show (!(timesF [l.getD a (0, 0), l.getD b (0, 0), l.getD c (0, 0)]).isEmpty) = true
  rw [times_ne.mpr ⟨p, hp, tog_sub ht fun x hx => ?_⟩]
  · rfl
  · rcases List.mem_cons.mp hx with e | hx
    · rw [e]; exact mem_getD ha
    · rcases List.mem_cons.mp hx with e | hx
      · rw [e]; exact mem_getD (by omega)
      · rcases List.mem_cons.mp hx with e | hx
        · rw [e]; exact mem_getD (by omega)
        · cases hx
theorem threes_never {l : List Hd} {ks : List Int} (h : ToldOk l (.never ks)) : (threesF l).all id = false := by
  obtain ⟨a, b, ha, hb, h1, h2, h3, h4, h5, h6⟩ := h
  have hbl := (List.getElem?_eq_some_iff.mp h4).1
  have hal := (List.getElem?_eq_some_iff.mp h3).1
  have ga : l.getD a (0, 0) = ha := by rw [List.getD_eq_getElem?_getD, h3]; rfl
  have gb : l.getD b (0, 0) = hb := by rw [List.getD_eq_getElem?_getD, h4]; rfl
  have key : ∀ m : List Hd, l.getD 0 (0, 0) ∈ m → ha ∈ m → hb ∈ m → (timesF m).isEmpty = true := fun m m0 ma mb => by
    cases q : (timesF m).isEmpty with
    | true => rfl
    | false =>
      exfalso
      obtain ⟨p, _, ht⟩ := times_ne.mp q
      have hm := togB_iff.mp ht
      have e0 := sol_iff.mpr (hm _ m0)
      have ea := sol_iff.mpr (hm _ ma)
      have eb := sol_iff.mpr (hm _ mb)
      exact clash_never h5 (Rat.divInt (p : Nat) 48) ⟨sol_iff.mp (ea.trans e0.symm), sol_iff.mp (eb.trans e0.symm)⟩
  rw [List.all_eq_false]
  by_cases hab : a = b
  · subst hab
    refine ⟨triB l a 0 0, ?_, ?_⟩
    · unfold threesF
      exact List.mem_flatMap.mpr ⟨a, List.mem_range.mpr hal, List.mem_flatMap.mpr ⟨0, List.mem_range.mpr h1, List.mem_map.mpr ⟨0, List.mem_range.mpr (by decide), rfl⟩⟩⟩
    · unfold triB
      rw [key _ (by simp) (by rw [ga]; simp) (by rw [← gb]; simp)]
      decide
  · refine ⟨triB l b a 0, ?_, ?_⟩
    · unfold threesF
      exact List.mem_flatMap.mpr ⟨b, List.mem_range.mpr hbl, List.mem_flatMap.mpr ⟨a, List.mem_range.mpr (by omega), List.mem_map.mpr ⟨0, List.mem_range.mpr (by omega), rfl⟩⟩⟩
    · unfold triB
      rw [key _ (by simp) (by rw [ga]; simp) (by rw [gb]; simp)]
      decide
/-- is it as told: no time at all just where it is never -/
theorem few_empty {l : List Hd} (hf : ∀ h ∈ l, Few h) (ok : ToldOk l (toldF l)) : (toldF l = .always ∧ (timesF l).length = 48) ∨ (∃ q n, toldF l = .at_ q n ∧ 0 < n ∧ (timesF l).isEmpty = false) ∨ (∃ ks, toldF l = .never ks ∧ timesF l = []) := by
  cases r : toldF l with
  | always =>
    left
    refine ⟨rfl, ?_⟩
    rw [r] at ok
    unfold timesF
    have : ((List.range 48).filter fun p => togB l (Rat.divInt (p : Nat) 48)) = List.range 48 := List.filter_eq_self.mpr fun p _ => always_times ok _
    rw [this, List.length_map, List.length_range]
  | at_ q n =>
    right; left
    rw [r] at ok
    refine ⟨q, n, rfl, ok.1, ?_⟩
    rw [few_times hf ok]
    have := ok.1
    cases n with
    | zero => omega
    | succ n => rw [List.range_succ_eq_map]; rfl
  | never ks =>
    right; right
    rw [r] at ok
    refine ⟨ks, rfl, ?_⟩
    unfold timesF
    have : ((List.range 48).filter fun p => togB l (Rat.divInt (p : Nat) 48)) = [] := List.filter_eq_nil_iff.mpr fun p _ => by rw [never_times ok]; decide
    rw [this]
    rfl
end HM

/-! LayA -/
namespace HM
open PySem L2
/-! ### the hands that a law makes of its script -/
def numF (c a w : Int) : Int := if 10 ^ 18 ≤ c then c else
  (((c + 977 * a) * 48271 + w) % 2147483647) * ((((c + 977 * a) * 48271 + w) % 2147483647) + 31 * a) * (c + 31 * a + 7) * ((((c + 977 * a) * 48271 + w) % 2147483647) + c) / (1009 + a)
def pick4 (k a b c d : Int) : Int := if k = 0 then a else if k = 1 then b else if k = 2 then c else d
theorem pick4_at {k a b c d : Int} (h0 : 0 ≤ k) (h4 : k < 4) : atI [I a, I b, I c, I d] k = some (I (pick4 k a b c d)) := by
  have : k = 0 ∨ k = 1 ∨ k = 2 ∨ k = 3 := by omega
  rcases this with rfl | rfl | rfl | rfl <;> rfl
def wideF (w : Int) : Int := pick4 (w / 7 % 4) 5 9 (10 ^ 20) 3
def partsF (w : Int) : Int := pick4 (w / 7 % 4) 4 12 60 (10 ^ 9 + 7)
theorem wide_bd (w : Int) : 3 ≤ wideF w ∧ wideF w ≤ 10 ^ 20 := by
  unfold wideF pick4
  split
  · decide
  · split
    · decide
    · split <;> decide
theorem parts_bd (w : Int) : 4 ≤ partsF w ∧ partsF w ≤ 10 ^ 9 + 7 := by
  unfold partsF pick4
  split
  · decide
  · split
    · decide
    · split <;> decide
def cellsF (ns : List Int) : List Int := ns.take (if ns.sum / 7 % 4 < 2 then 63 else 16)
def meetF (w : Int) : Rat := Rat.divInt (w / 56 % 100) (1 + w / 11 % 30)
def oddF (ns : List Int) : Int := if ns.sum / 28 % 6 = 3 then ns.sum / 5 % max 1 ((cellsF ns).length : Int) else -1
def rateF (w a c : Int) : Int := numF c a w % wideF w - wideF w / 3
def startF (w a c : Int) : Rat := Rat.divInt (numF c a w / wideF w % partsF w) (partsF w)
def handF (w odd a c : Int) : Hd := (rateF w a c, if w / 28 % 2 = 1 ∧ a ≠ odd then plc (-rateF w a c, 0) (meetF w) else startF w a c)
def handsF0 (ns : List Int) : List Hd := (List.range (cellsF ns).length).map fun i => handF ns.sum (oddF ns) (i : Nat) ((cellsF ns).getD i 0)
def handsF (ns : List Int) : List Hd :=
  if ns.sum / 13 % 9 = 4 then (handsF0 ns).map fun h => (((handsF0 ns).getD 0 (0, 0)).1, h.2)
  else if ns.sum / 13 % 9 = 5 then (handsF0 ns).map fun _ => (handsF0 ns).getD 0 (0, 0) else handsF0 ns
theorem cells_len {ns : List Int} (h : ns.length ≤ 63) : (cellsF ns).length ≤ 63 := by
  unfold cellsF
  rw [List.length_take]
  omega
theorem meet_bd (w : Int) : Bd 7 (meetF w) := by
  have h1 := Int.emod_nonneg (w / 56) (show (100 : Int) ≠ 0 by decide)
  have h2 := Int.emod_lt_of_pos (w / 56) (show (0 : Int) < 100 by decide)
  have h3 := Int.emod_nonneg (w / 11) (show (30 : Int) ≠ 0 by decide)
  have h4 := Int.emod_lt_of_pos (w / 11) (show (0 : Int) < 30 by decide)
  exact made_bd (n := 7) (by omega) (by omega) (by omega) (by decide)
theorem rate_bd (w a c : Int) : Bt 70 (rateF w a c) := by
  obtain ⟨h1, h2⟩ := wide_bd w
  unfold rateF
  generalize wideF w = x at *
  have h3 := Int.emod_nonneg (numF c a w) (show x ≠ 0 by omega)
  have h4 := Int.emod_lt_of_pos (numF c a w) (show 0 < x by omega)
  have h5 : (10 : Int) ^ 20 < 2 ^ 70 := by decide
  have h6 : (2 : Int) ^ 70 = ((2 ^ 70 : Nat) : Int) := by decide
  unfold Bt
  omega
theorem hand_ok (w odd a c : Int) : HOk (handF w odd a c) := by
  have hr := rate_bd w a c
  have hm := meet_bd w
  refine ⟨?_, ?_, ?_, hr.mono (by decide)⟩
  all_goals
    unfold handF
    dsimp only
    split
  · exact fract_nonneg _
  · obtain ⟨h1, h2⟩ := parts_bd w
    unfold startF
    generalize partsF w = x at *
    rw [fract_made (by omega)]
    exact fract_nonneg _
  · exact fract_lt _
  · obtain ⟨h1, h2⟩ := parts_bd w
    unfold startF
    generalize partsF w = x at *
    rw [fract_made (by omega)]
    exact fract_lt _
  · have h0 : Bd 1 (0 : Rat) := ⟨by decide, by decide⟩
    have h1 := hm.mulI (k := -rateF w a c) (n := 70) hr.neg
    exact ((h0.add h1).fract).mono (by decide)
  · obtain ⟨h1, h2⟩ := parts_bd w
    unfold startF
    generalize partsF w = x at *
    have h3 := Int.emod_nonneg (numF c a w / wideF w) (show x ≠ 0 by omega)
    have h4 := Int.emod_lt_of_pos (numF c a w / wideF w) (show 0 < x by omega)
    have h5 : (10 : Int) ^ 9 + 7 < 2 ^ 40 := by decide
    have h6 : (2 : Int) ^ 40 = ((2 ^ 40 : Nat) : Int) := by decide
    exact (made_bd (m := 40) (n := 40) (by omega) (by omega) (by omega) (by decide)).mono (by decide)
theorem hands_ok {ns : List Int} (h : ns.length ≤ 63) : HsOk (handsF ns) := by
  have l0 : (handsF0 ns).length ≤ 63 := by
    unfold handsF0
    rw [List.length_map, List.length_range]
    exact cells_len h
  have o0 : ∀ x ∈ handsF0 ns, HOk x := fun x hx => by
    unfold handsF0 at hx
    obtain ⟨i, _, rfl⟩ := List.mem_map.mp hx
    exact hand_ok _ _ _ _
  have oz : HOk ((handsF0 ns).getD 0 (0, 0)) ∨ handsF0 ns = [] := by
    cases q : handsF0 ns with
    | nil => exact .inr rfl
    | cons x xs => exact .inl (o0 x (by rw [q]; simp))
  unfold handsF
  split
  · refine ⟨by rw [List.length_map]; exact l0, fun x hx => ?_⟩
    obtain ⟨y, hy, rfl⟩ := List.mem_map.mp hx
    rcases oz with z | z
    · exact ⟨(o0 y hy).lo, (o0 y hy).hi, (o0 y hy).bs, z.br⟩
    · rw [z] at hy; cases hy
  · split
    · refine ⟨by rw [List.length_map]; exact l0, fun x hx => ?_⟩
      obtain ⟨y, hy, rfl⟩ := List.mem_map.mp hx
      rcases oz with z | z
      · exact z
      · rw [z] at hy; cases hy
    · exact ⟨l0, o0⟩
theorem Bt.dec {n : Nat} {i : Int} (h : i.natAbs < 2 ^ n) : Bt n i := h
theorem Bd0 : Bd 200 (0 : Rat) := ⟨by decide, by decide⟩
theorem cut63 {ns : List Int} (h : ns.length ≤ 63) : cutD (ns.map I) none (some 63) = ns.map I := by
  have e : (63 : Int) = ((63 : Nat) : Int) := rfl
  rw [e, cutD_take, List.take_of_length_le (by rw [List.length_map]; exact h)]
/-! ### a time of the script -/
def dayF (ns : List Int) (k : Int) : Int :=
  if (ns.sum + k) / 4 % 4 = 1 ∧ ns ≠ [] then
    (if ns.getD (k % (ns.length : Int)).toNat 0 < 10 ^ 18 then (ns.getD (k % (ns.length : Int)).toNat 0 * 7919 + 13) * (10 ^ 33 + (ns.sum + k)) else ns.getD (k % (ns.length : Int)).toNat 0) % 10 ^ 40 - 5 * 10 ^ 39
  else (ns.sum + k) / 3 % 4000 - 1500
def underF (w : Int) : Int := pick4 (w % 4) 1 12 (1 + w % 97) (10 ^ 12 + 39)
def timeF (ns : List Int) (k : Int) : Rat := Rat.divInt (dayF ns k) (underF (ns.sum + k))
theorem under_bd (w : Int) : 1 ≤ underF w ∧ underF w ≤ 10 ^ 12 + 39 := by
  unfold underF pick4
  have h3 := Int.emod_nonneg w (show (97 : Int) ≠ 0 by decide)
  have h4 := Int.emod_lt_of_pos w (show (0 : Int) < 97 by decide)
  split
  · decide
  · split
    · decide
    · split
      · omega
      · decide
theorem day_bd (ns : List Int) (k : Int) : (dayF ns k).natAbs < 2 ^ 140 := by
  unfold dayF
  split
  · generalize (if ns.getD (k % (ns.length : Int)).toNat 0 < 10 ^ 18 then (ns.getD (k % (ns.length : Int)).toNat 0 * 7919 + 13) * (10 ^ 33 + (ns.sum + k)) else ns.getD (k % (ns.length : Int)).toNat 0) = x
    have h3 := Int.emod_nonneg x (show (10 ^ 40 : Int) ≠ 0 by decide)
    have h4 := Int.emod_lt_of_pos x (show (0 : Int) < 10 ^ 40 by decide)
    have h5 : (10 : Int) ^ 40 < ((2 ^ 139 : Nat) : Int) := by decide
    have h6 : (5 : Int) * 10 ^ 39 < ((2 ^ 139 : Nat) : Int) := by decide
    have h7 : ((2 ^ 140 : Nat) : Int) = 2 * ((2 ^ 139 : Nat) : Int) := by decide
    have h8 : (0 : Int) < 5 * 10 ^ 39 := by decide
    generalize (5 : Int) * 10 ^ 39 = y at *
    omega
  · have h3 := Int.emod_nonneg ((ns.sum + k) / 3) (show (4000 : Int) ≠ 0 by decide)
    have h4 := Int.emod_lt_of_pos ((ns.sum + k) / 3) (show (0 : Int) < 4000 by decide)
    have h7 : 4000 < 2 ^ 140 := by decide
    omega
theorem time_bd (ns : List Int) (k : Int) : Bd 140 (timeF ns k) := by
  obtain ⟨h1, h2⟩ := under_bd (ns.sum + k)
  have h5 : (10 : Int) ^ 12 + 39 < ((2 ^ 140 : Nat) : Int) := by decide
  exact made_bd (m := 140) (n := 140) (by omega) (day_bd ns k) (by omega) (by decide)
theorem sum_bt {n : Nat} : ∀ {ns : List Int}, (∀ c ∈ ns, Bt n c) → ns.sum.natAbs ≤ ns.length * 2 ^ n
  | [], _ => by simp
  | c :: ns, h => by
    have h1 := sum_bt (ns := ns) fun x hx => h x (List.mem_cons_of_mem _ hx)
    have h2 : c.natAbs < 2 ^ n := h c (List.mem_cons_self ..)
    rw [List.sum_cons, List.length_cons, Nat.add_mul]
    omega
theorem sum_bt63 {n : Nat} {ns : List Int} (h : ∀ c ∈ ns, Bt n c) (hl : ns.length ≤ 63) : Bt (n + 6) ns.sum := by
  have h1 := sum_bt h
  have h2 : ns.length * 2 ^ n ≤ 63 * 2 ^ n := Nat.mul_le_mul_right _ hl
  have h3 : 2 ^ (n + 6) = 2 ^ n * 64 := by rw [Nat.pow_add]
  have h4 : 0 < 2 ^ n := Nat.pow_pos (by decide)
  unfold Bt
  omega
end HM

/-! LayB -/
namespace HM
open PySem L2
/-! ### list.count of bools -/
def eqb (k : Bool) (v : Value) : Bool := match v with
  | .bool n => n == k
  | _ => false
theorem vals_bl : ∀ {bs : List Bool} {us : List Value}, Vals (bs.map V.bl) us → us = bs.map Value.bool
  | [], us, r => by
    rw [List.map_nil] at r
    cases r
    rfl
  | b :: bs, us, r => by
    rw [List.map_cons] at r
    cases r with
    | cons r1 r2 =>
      have e1 : _ = Value.bool b := r1
      rw [vals_bl r2, e1, List.map_cons]
theorem eqb_count {k : Bool} : ∀ bs : List Bool, (bs.map Value.bool).countP (eqb k) = bs.count k
  | [] => rfl
  | b :: bs => by
    rw [List.map_cons, List.countP_cons, List.count_cons, eqb_count bs] <;> rfl
def rCntB (K : PySem.W.Frag) : V → List V → Hp → VK → Prop := fun x xs H Q => ∃ (p : Addr) (bs : List Bool) (k : Bool), x = .ref p ∧ xs = [.bl k] ∧ SqL K H p (bs.map V.bl) ∧ Q (.int (bs.count k : Nat)) H
theorem kCount {X : Cx} {K : PySem.W.Frag} (hK : X.K = K := by rfl) : MtR X "list.count" (rCntB K) := by
  intro pins s σ H x xs v us Q I rx rxs h
  subst hK
  obtain ⟨p, bs, k, rfl, rfl, hs, q⟩ := h
  cases rx
  obtain ⟨u, rfl, ru⟩ := rxs.one
  have ru' : u = Value.bool k := ru
  subst ru'
  obtain ⟨its, rv, ⟨⟨cls, dd, data, sl⟩, n, ho, hc, hdn, hd⟩, hlen⟩ := I.list hs
  simp only at hc hd
  subst hc hd
  have hi := vals_bl rv
  subst hi
  refine call_meets PySem.F.slot_list_count ⟨_, ho, rfl⟩ PySem.F.entry_list_count (PySem.F.args_list_count_2 _ _)
    (SeqAt.list_countAt p (bs.map Value.bool).toArray n dd sl (.bool k) (eqb k)) ⟨ho, fun y hy => ?_, ?_⟩
  · obtain ⟨z, _, rfl⟩ := List.mem_map.mp (List.mem_toArray.mp hy)
    exact SeqAt.EqAt.bool_bool z k
  · refine ⟨.int (bs.count k : Nat), H, I.tok _, ⟨s.toks, ?_⟩, q⟩
    show Value.int (((bs.map Value.bool).toArray.toList.countP (eqb k) : Nat) : Int) s.toks = Value.int ((bs.count k : Nat) : Int) s.toks
    rw [List.toList_toArray, eqb_count]
section
variable {K : PySem.W.Frag} {ds : Env} {ta tb te tl : TE} {t u : TS} {c : TT} {d : D} {s : S}
theorem ev_countB {bs : List Bool} {k : Bool} {ta : TA} (h : EvS K te ds (.p (.lst (bs.map B)))) (hy : EvA K ta ds [B k]) : EvS K (tBM K "list" (rCntB K) te ta) ds (.p (I (bs.count k : Nat))) := fun σ H0 G H Q e q =>
  h σ H0 G H _ e fun v G1 H1 g1 hv => by
    cases hv with
    | lst h1 h2 =>
      refine ⟨.inl ⟨rfl, _, SqL.of (g1.s _ _ h1)⟩, hy σ H0 G1 H1 _ (e.gr g1) fun vs G2 H2 g2 hvs => ?_⟩
      cases hvs with
      | cons hd' t =>
        cases t
        cases hd'
        cases ats_bls h2
        exact ⟨_, bs, k, rfl, rfl, SqL.of (g2.s _ _ (g2.g _ _ h1)), q _ G2 H2 (g1.trans g2) (.val _)⟩

/-! ### statements that change no more than the slots W, and no heap that stood -/
def SDk (K : PySem.W.Frag) (t : TS) (ds : Env) (W : List Nat) (N : Env → Prop) (R : V → Prop) : Prop := ∀ (E : Ends) (σ : L2.St) (H0 G H : Hp), En K H0 G H σ ds →
  (∀ ds' σ' G' H', Gr G H G' H' → En K H0 G' H' σ' ds' → (σ'.length = σ.length ∧ ∀ j, j ∉ W → σ'[j]? = σ[j]?) → N ds' → E.nx σ' H') → (∀ v G' H', Gr G H G' H' → R v → E.rt v H') → t E σ H
variable {W : List Nat} {N : Env → Prop} {R : V → Prop}
theorem k_next (h : N ds) : SDk K tNext ds W N R := fun E σ H0 G H e n r => n ds σ G H (.refl e.gh) e ⟨rfl, fun _ _ => rfl⟩ h
theorem k_seq (h : SDk K t ds W (fun ds' => SDk K u ds' W N R) R) : SDk K (tSeq t u) ds W N R := fun E σ H0 G H e n r =>
  h { E with nx := u E } σ H0 G H e (fun ds' σ' G' H' g' e' hw hu => hu E σ' H0 G' H' e' (fun ds2 σ2 G2 H2 g2 e2 hw2 => n ds2 σ2 G2 H2 (g'.trans g2) e2 ⟨hw2.1.trans hw.1, fun j hj => (hw2.2 j hj).trans (hw.2 j hj)⟩) fun v G2 H2 g2 => r v G2 H2 (g'.trans g2)) r
theorem k_if {b : Bool} (h : EvT K c ds b) (h1 : b = true → SDk K t ds W N R) (h2 : b = false → SDk K u ds W N R) : SDk K (tIfS c t u) ds W N R := fun E σ H0 G H e n r =>
  h σ H0 G H _ e fun G1 H1 g1 => by
    cases b with
    | true => exact h1 rfl E σ H0 G1 H1 (e.gr g1) (fun ds' σ' G' H' g' => n ds' σ' G' H' (g1.trans g')) fun v G' H' g' => r v G' H' (g1.trans g')
    | false => exact h2 rfl E σ H0 G1 H1 (e.gr g1) (fun ds' σ' G' H' g' => n ds' σ' G' H' (g1.trans g')) fun v G' H' g' => r v G' H' (g1.trans g')
theorem k_ret {v : V} (h : EvS K te ds (.p (.val v))) (hr : R v) : SDk K (tRet te) ds W N R := fun E σ H0 G H e n r =>
  h σ H0 G H _ e fun v' G1 H1 g1 hv => by cases hv; exact r _ G1 H1 g1 hr
theorem wipe_get {σ : L2.St} : ∀ {vs : List Nat} {j : Nat}, j ∉ vs → (L2.wipe σ vs)[j]? = σ[j]?
  | [], _, _ => rfl
  | v :: vs, j, h => by
    have h1 : j ≠ v := fun z => h (z ▸ List.mem_cons_self ..)
    have h2 : j ∉ vs := fun z => h (List.mem_cons_of_mem _ z)
    show ((L2.wipe σ vs).set v none)[j]? = _
    rw [List.getElem?_set_ne (Ne.symm h1), wipe_get h2]
theorem wipeS_get {ds : Env} {s : S} : ∀ {vs : List Nat} {j : Nat}, (wipeS ds vs)[j]? = some (some s) → j ∉ vs ∧ ds[j]? = some (some s)
  | [], _, h => ⟨by simp, h⟩
  | v :: vs, j, h => by
    rcases get_set (show ((wipeS ds vs).set v none)[j]? = some (some s) from h) with ⟨_, q⟩ | ⟨hne, q⟩
    · cases q
    · obtain ⟨a, b⟩ := wipeS_get q
      exact ⟨fun z => (List.mem_cons.mp z).elim hne a, b⟩
theorem wipeS_len {ds : Env} : ∀ vs : List Nat, (wipeS ds vs).length = ds.length
  | [] => rfl
  | v :: vs => by
    show ((wipeS ds vs).set v none).length = _
    rw [List.length_set, wipeS_len vs]
theorem k_asg {g : TG} {gv : List Nat} (h : EvS K te ds (.p d)) (hw : ∀ j ∈ gv, j ∈ W) (hg : SG K g gv d ds N) : SDk K (tAsg te g) ds W N R := fun E σ H0 G H e n r =>
  h σ H0 G H _ e fun v G1 H1 g1 hv => hg σ H0 G1 H1 v _ (e.gr g1) hv fun σ' ds' e' hwp hn => n ds' σ' G1 H1 g1 e' ⟨by
    have h1 := congrArg List.length (hwp gv fun _ z => z)
    rwa [L2.wipe_length, L2.wipe_length] at h1, fun j hj => by
    have h1 := hwp gv fun _ z => z
    have hj' : j ∉ gv := fun z => hj (hw j z)
    rw [← wipe_get hj', h1, wipe_get hj']⟩ hn
theorem En.agree {H0 G H : Hp} {σ σ' : L2.St} (e : En K H0 G H σ ds) (hl : σ'.length = σ.length) (h : ∀ j, j ∉ W → σ'[j]? = σ[j]?) : En K H0 G H σ' (wipeS ds W) :=
  ⟨e.h0, e.gh, by rw [wipeS_len, hl]; exact e.len, fun i s hi => by
    obtain ⟨a, b⟩ := wipeS_get hi
    rw [h i a]
    exact e.get i s b, fun i j xs ys hi hj z => by
    obtain ⟨a, b⟩ := wipeS_get hi
    obtain ⟨c, d⟩ := wipeS_get hj
    rw [h i a, h j c] at z
    exact e.ne i j xs ys b d z⟩
/-- a loop over what is owned, which it only reads -/
theorem sd_forO {wi : TI} {g : TG} {gv : List Nat} {xs : List D} {RS : S → Prop} (hi : EvI K wi (frzE ds) xs) (W : List Nat) (hw : ∀ j ∈ gv, j ∈ W)
    (hs : ∀ (i : Nat) (x : D), xs[i]? = some x → SG K g gv x (wipeS (frzE ds) W) fun ds2 => SDk K t ds2 W (fun _ => True) R) (hr : ∀ v, R v → RS (.p (.val v))) (hn : N (wipeS ds W)) : SD K (tFor wi g t) ds N RS := fun E σ G0 H0 G H gr e n r => by
  obtain ⟨G1, x1, x2, e1⟩ := e.frz
  refine hi σ H0 G1 H _ e1 fun J G2 H2 g2 hwk => ?_
  refine for_it hwk (fun i σ' H' => ∃ G', Gr G2 H2 G' H' ∧ σ'.length = σ.length ∧ ∀ j, j ∉ W → σ'[j]? = σ[j]?) ⟨G2, .refl g2.s, rfl, fun _ _ => rfl⟩ ?_ ?_ ?_
  · rintro i σ' H' _ ⟨G', y1, _⟩
    exact y1.g.trans y1.s
  · rintro i x σ' H' H3 hi' ⟨G', y1, y2, y3⟩ y
    obtain ⟨d, G3, hd', g3, hx⟩ := y G' y1.g y1.s
    have e3 : En K H0 G3 H3 σ' (wipeS (frzE ds) W) := (((e1.gr g2).gr y1).gr g3).agree y2 y3
    refine hs i d hd' σ' H0 G3 H3 x _ e3 hx fun σ2 ds2 e2 hwp hb => ?_
    have a2 : ∀ j, j ∉ W → σ2[j]? = σ[j]? := fun j hj => by
      have h1 := hwp gv fun _ z => z
      have hj' : j ∉ gv := fun z => hj (hw j z)
      rw [← y3 j hj, ← wipe_get hj', h1, wipe_get hj']
    refine hb _ σ2 H0 G3 H3 e2 (fun ds4 σ4 G4 H4 g4 e4 hw4 _ => ⟨G4, (y1.trans g3).trans g4, ?_, fun j hj => (hw4.2 j hj).trans (a2 j hj)⟩) fun v G4 H4 g4 hv => ?_
    · have h1 := congrArg List.length (hwp gv fun _ z => z)
      rw [L2.wipe_length, L2.wipe_length] at h1
      rw [hw4.1, h1, y2]
    · obtain ⟨G5, g5⟩ := (((g2.trans y1).trans g3).trans g4).unfrz e.gh
      exact r v (.p (.val v)) G5 H4 (gr.trans g5) (At.val v) (hr v hv)
  · rintro σ' H' ⟨G', y1, y2, y3⟩
    obtain ⟨G5, g5⟩ := (g2.trans y1).unfrz e.gh
    exact n _ σ' G5 H' (gr.trans g5) g5.g ((e.gr g5).agree y2 y3) hn
end
end HM

/-! Mth7 -/
namespace HM
/-! ### told of hands otherwise -/
theorem made_den_le {a b : Int} (hb : 0 < b) : (Rat.divInt a b).den ≤ b.natAbs := by
  have h := made_den (a := a) hb
  have h1 := Int.natAbs_ediv_le_natAbs b (Int.gcd a b : Int)
  rw [← h] at h1
  omega
theorem den_add (p q : Rat) : (p + q).den ≤ p.den * q.den := by
  rw [← plus_made]
  have hp := p.den_pos
  have hq := q.den_pos
  have := made_den_le (a := p.num * q.den + q.num * p.den) (b := (p.den : Int) * (q.den : Int)) (Int.mul_pos (by omega) (by omega))
  rwa [Int.natAbs_mul] at this
theorem den_mulI (p : Rat) (k : Int) : (p * (k : Rat)).den ≤ p.den := by
  rw [← times_made]
  have hp := p.den_pos
  exact made_den_le (a := p.num * k) (b := (p.den : Int)) (by omega)
theorem fract_bd {q : Rat} {n : Nat} (h : q.den < 2 ^ n) : Bd n (fract q) := by
  have hd := q.den_pos
  constructor
  · rw [fract_num]
    have h1 := Int.emod_nonneg q.num (show (q.den : Int) ≠ 0 by omega)
    have h2 := Int.emod_lt_of_pos q.num (show (0 : Int) < q.den by omega)
    omega
  · rw [fract_den]
    exact h
theorem fract_fract_add (a b : Rat) : fract (fract a + b) = fract (a + b) := by
  have e : fract a + b = a + b + ((-a.floor : Int) : Rat) := by
    unfold fract
    rw [Rat.intCast_neg]
    grind
  rw [e, fract_add_int]
theorem nat_ne {n : Nat} (h : 0 < n) : ((n : Int) : Rat) ≠ 0 := fun z => by
  have : (n : Int) = 0 := by exact_mod_cast z
  omega
theorem half_no : ¬ Wh (1 / 2 : Rat) := fun h => by
  obtain ⟨k, e⟩ := h
  have e1 : ((1 : Int) : Rat) = ((2 * k : Int) : Rat) := by
    rw [Rat.intCast_mul, ← e]
    grind
  have e2 : (1 : Int) = 2 * k := by exact_mod_cast e1
  omega
theorem at_not_all {l : List Hd} {q : Rat} {n : Nat} (h : ToldOk l (.at_ q n)) : ∃ t, togB l t = false := by
  have h0 := nat_ne h.1
  refine ⟨q + 1 / (2 * ((n : Int) : Rat)), ?_⟩
  cases e : togB l (q + 1 / (2 * ((n : Int) : Rat))) with
  | false => rfl
  | true =>
    have := (at_times h _).mp e
    have e2 : ((n : Int) : Rat) * (q + 1 / (2 * ((n : Int) : Rat)) - q) = 1 / 2 := by grind
    rw [e2] at this
    exact absurd this half_no
theorem at_here {l : List Hd} {q : Rat} {n : Nat} (h : ToldOk l (.at_ q n)) : togB l q = true := by
  rw [at_times h, Rat.sub_self, Rat.mul_zero]
  exact ⟨0, rfl⟩
theorem wh_div_dvd {m n : Nat} (hn : 0 < n) (h : Wh (((m : Int) : Rat) / ((n : Int) : Rat))) : n ∣ m := by
  obtain ⟨k, e⟩ := h
  have h0 := nat_ne hn
  have e1 : ((m : Int) : Rat) = ((k * (n : Int) : Int) : Rat) := by
    rw [Rat.intCast_mul]
    grind
  have e2 : (m : Int) = k * (n : Int) := by exact_mod_cast e1
  have : (n : Int) ∣ (m : Int) := ⟨k, by rw [e2, Int.mul_comm]⟩
  exact Int.natCast_dvd_natCast.mp this
theorem told_shift {l l' : List Hd} (ok : ToldOk l (toldF l)) (ok' : ToldOk l' (toldF l')) {t0 : Rat} (h : ∀ t, togB l' t = togB l (t + t0)) :
    (toldF l = .always ∧ toldF l' = .always) ∨ (∃ q n, toldF l = .at_ q n ∧ ToldOk l (.at_ q n) ∧ toldF l' = .at_ (fract ((q - t0) * ((n : Int) : Rat)) / ((n : Int) : Rat)) n) ∨ (∃ ks ks', toldF l = .never ks ∧ toldF l' = .never ks') := by
  have hb : ∀ t, togB l t = togB l' (t - t0) := fun t => by
    have e : t - t0 + t0 = t := by grind
    rw [h, e]
  cases e : toldF l with
  | always =>
    rw [e] at ok
    cases e' : toldF l' with
    | always => exact .inl ⟨rfl, rfl⟩
    | at_ q n =>
      rw [e'] at ok'
      obtain ⟨t, ht⟩ := at_not_all ok'
      rw [h, always_times ok] at ht
      cases ht
    | never ks =>
      rw [e'] at ok'
      have := never_times ok' 0
      rw [h, always_times ok] at this
      cases this
  | never ks =>
    rw [e] at ok
    cases e' : toldF l' with
    | never ks' => exact .inr (.inr ⟨ks, ks', rfl, rfl⟩)
    | always =>
      rw [e'] at ok'
      have := never_times ok 0
      rw [hb, always_times ok'] at this
      cases this
    | at_ q n =>
      rw [e'] at ok'
      have := at_here ok'
      rw [h, never_times ok] at this
      cases this
  | at_ q n =>
    rw [e] at ok
    cases e' : toldF l' with
    | always =>
      rw [e'] at ok'
      obtain ⟨t, ht⟩ := at_not_all ok
      rw [hb, always_times ok'] at ht
      cases ht
    | never ks =>
      rw [e'] at ok'
      have := at_here ok
      rw [hb, never_times ok'] at this
      cases this
    | at_ q' n' =>
      rw [e'] at ok'
      refine .inr (.inl ⟨q, n, rfl, ok, ?_⟩)
      have n0 := nat_ne ok.1
      have n0' := nat_ne ok'.1
      have w1 : ∀ t, Wh (((n' : Int) : Rat) * (t - q')) → Wh (((n : Int) : Rat) * (t + t0 - q)) := fun t ht => (at_times ok _).mp (by rw [← h]; exact (at_times ok' _).mpr ht)
      have w2 : ∀ t, Wh (((n : Int) : Rat) * (t - q)) → Wh (((n' : Int) : Rat) * (t - t0 - q')) := fun t ht => (at_times ok' _).mp (by rw [← hb]; exact (at_times ok _).mpr ht)
      have a1 := w1 q' (by rw [Rat.sub_self, Rat.mul_zero]; exact ⟨0, rfl⟩)
      have a2 := w1 (q' + 1 / ((n' : Int) : Rat)) (by
        have : ((n' : Int) : Rat) * (q' + 1 / ((n' : Int) : Rat) - q') = 1 := by grind
        rw [this]
        exact ⟨1, rfl⟩)
      have b1 := w2 q (by rw [Rat.sub_self, Rat.mul_zero]; exact ⟨0, rfl⟩)
      have b2 := w2 (q + 1 / ((n : Int) : Rat)) (by
        have : ((n : Int) : Rat) * (q + 1 / ((n : Int) : Rat) - q) = 1 := by grind
        rw [this]
        exact ⟨1, rfl⟩)
      have a3 := a2.sub a1
      have b3 := b2.sub b1
      have ea : ((n : Int) : Rat) * (q' + 1 / ((n' : Int) : Rat) + t0 - q) - ((n : Int) : Rat) * (q' + t0 - q) = ((n : Int) : Rat) / ((n' : Int) : Rat) := by grind
      have eb : ((n' : Int) : Rat) * (q + 1 / ((n : Int) : Rat) - t0 - q') - ((n' : Int) : Rat) * (q - t0 - q') = ((n' : Int) : Rat) / ((n : Int) : Rat) := by grind
      rw [ea] at a3
      rw [eb] at b3
      have en : n = n' := Nat.dvd_antisymm (wh_div_dvd ok.1 b3) (wh_div_dvd ok'.1 a3)
      subst en
      obtain ⟨_, _, _, l1, l2, _⟩ := ok'
      have l0 : 0 ≤ q' * ((n : Int) : Rat) := Rat.mul_nonneg l1 (by exact_mod_cast Int.natCast_nonneg n)
      have f1 : fract ((q - t0) * ((n : Int) : Rat)) = q' * ((n : Int) : Rat) := by
        rw [← fract_of l0 l2, fract_eq_wh]
        have := a1.neg
        have e3 : -(((n : Int) : Rat) * (q' + t0 - q)) = (q - t0) * ((n : Int) : Rat) - q' * ((n : Int) : Rat) := by grind
        rwa [e3] at this
      rw [f1]
      congr 1
      grind
theorem told_same {l l' : List Hd} (ok : ToldOk l (toldF l)) (ok' : ToldOk l' (toldF l')) (h : ∀ t, togB l' t = togB l t) :
    (toldF l = .always ∧ toldF l' = .always) ∨ (∃ q n, toldF l = .at_ q n ∧ toldF l' = .at_ q n) ∨ (∃ ks ks', toldF l = .never ks ∧ toldF l' = .never ks') := by
  rcases told_shift ok ok' (t0 := 0) (fun t => by rw [Rat.add_zero]; exact h t) with a | ⟨q, n, e, o, e'⟩ | a
  · exact .inl a
  · refine .inr (.inl ⟨q, n, e, ?_⟩)
    rw [e']
    congr 1
    obtain ⟨n1, _, _, l1, l2, _⟩ := o
    have n0 := nat_ne n1
    have l0 : 0 ≤ q * ((n : Int) : Rat) := Rat.mul_nonneg l1 (by exact_mod_cast Int.natCast_nonneg n)
    have e3 : q - 0 = q := by grind
    rw [e3, fract_of l0 l2]
    grind
  · exact .inr (.inr a)
theorem togB_map {l : List Hd} {f : Hd → Hd} {t t' : Rat} (h : ∀ x y, x ∈ l → y ∈ l → (plc (f x) t' = plc (f y) t' ↔ plc x t = plc y t)) : togB (l.map f) t' = togB l t := by
  cases l with
  | nil => rfl
  | cons a l =>
    rw [Bool.eq_iff_iff]
    unfold togB
    rw [List.all_eq_true, List.all_eq_true]
    have ha : a ∈ a :: l := List.mem_cons_self ..
    constructor
    · intro H x hx
      exact decide_eq_true ((h x a hx ha).mp (of_decide_eq_true (H (f x) (List.mem_map_of_mem hx))))
    · intro H y hy
      obtain ⟨x, hx, rfl⟩ := List.mem_map.mp hy
      exact decide_eq_true ((h x a hx ha).mpr (of_decide_eq_true (H x hx)))
theorem wh_congr {p q : Rat} (h : p = q) : Wh p ↔ Wh q := by rw [h]
def turnF (t : Rat) (h : Hd) : Hd := (h.1, fract (h.2 + t))
def mirrF (h : Hd) : Hd := (-h.1, fract (-h.2))
def seenF (o h : Hd) : Hd := (h.1 - o.1, fract (h.2 - o.2))
def lateF (t : Rat) (h : Hd) : Hd := (h.1, plc h t)
theorem tog_turn (l : List Hd) (t0 t : Rat) : togB (l.map (turnF t0)) t = togB l t := togB_map fun x y _ _ => by
  unfold plc turnF
  dsimp only
  rw [fract_fract_add, fract_fract_add, fract_eq_wh, fract_eq_wh]
  exact wh_congr (by grind)
theorem tog_mirr (l : List Hd) (t : Rat) : togB (l.map mirrF) t = togB l t := togB_map fun x y _ _ => by
  unfold plc mirrF
  dsimp only
  rw [fract_fract_add, fract_fract_add, fract_eq_wh, fract_eq_wh, Rat.intCast_neg, Rat.intCast_neg]
  constructor
  · intro h
    have := h.neg
    refine (wh_congr ?_).mp this
    grind
  · intro h
    have := h.neg
    refine (wh_congr ?_).mp this
    grind
theorem tog_seen (l : List Hd) (o : Hd) (t : Rat) : togB (l.map (seenF o)) t = togB l t := togB_map fun x y _ _ => by
  unfold plc seenF
  dsimp only
  rw [fract_fract_add, fract_fract_add, fract_eq_wh, fract_eq_wh, Rat.intCast_sub, Rat.intCast_sub]
  exact wh_congr (by grind)
theorem tog_late (l : List Hd) (t0 t : Rat) : togB (l.map (lateF t0)) t = togB l (t + t0) := togB_map fun x y _ _ => by
  unfold plc lateF plc
  dsimp only
  rw [fract_fract_add, fract_fract_add, fract_eq_wh, fract_eq_wh]
  exact wh_congr (by grind)
theorem turn_back {h : Hd} (h0 : 0 ≤ h.2) (h1 : h.2 < 1) (t : Rat) : turnF (-t) (turnF t h) = h := by
  unfold turnF
  dsimp only
  rw [fract_fract_add]
  have e : h.2 + t + -t = h.2 := by grind
  rw [e, fract_of h0 h1]
theorem mirr_back {h : Hd} (h0 : 0 ≤ h.2) (h1 : h.2 < 1) : mirrF (mirrF h) = h := by
  unfold mirrF
  dsimp only
  rw [Int.neg_neg]
  have e : fract (-fract (-h.2)) = h.2 := by
    refine Eq.trans ?_ (fract_of h0 h1)
    rw [fract_eq_wh]
    unfold fract
    refine ⟨(-h.2).floor, ?_⟩
    grind
  rw [e]
/-! ### hands of less size -/
structure HTi (h : Hd) : Prop where
  lo : 0 ≤ h.2
  hi : h.2 < 1
  de : h.2.den < 2 ^ 40
  br : Bt 70 h.1
def HsTi (l : List Hd) : Prop := l.length ≤ 63 ∧ ∀ h ∈ l, HTi h
theorem part_bd {q : Rat} {n : Nat} (h0 : 0 ≤ q) (h1 : q < 1) (h : q.den < 2 ^ n) : Bd n q := by
  rw [← fract_of h0 h1]
  exact fract_bd h
theorem HsTi.ok {l : List Hd} (h : HsTi l) : HsOk l := ⟨h.1, fun x hx => ⟨(h.2 x hx).lo, (h.2 x hx).hi, (part_bd (h.2 x hx).lo (h.2 x hx).hi (h.2 x hx).de).mono (by decide), (h.2 x hx).br.mono (by decide)⟩⟩
theorem hand_ti (w odd a c : Int) : HTi (handF w odd a c) := by
  have ok := hand_ok w odd a c
  refine ⟨ok.lo, ok.hi, ?_, rate_bd w a c⟩
  unfold handF
  dsimp only
  split
  · unfold plc
    rw [fract_den]
    dsimp only
    rw [Rat.zero_add]
    have h1 := den_mulI (meetF w) (-rateF w a c)
    have h2 := (meet_bd w).de
    have h3 : 2 ^ 7 ≤ 2 ^ 40 := by decide
    omega
  · unfold startF
    obtain ⟨h1, h2⟩ := parts_bd w
    generalize partsF w = x at *
    have h3 := made_den_le (a := numF c a w / wideF w % x) (b := x) (by omega)
    have h5 : (10 : Int) ^ 9 + 7 < ((2 ^ 40 : Nat) : Int) := by decide
    omega
theorem hands_ti {ns : List Int} (h : ns.length ≤ 63) : HsTi (handsF ns) := by
  have l0 := (hands_ok h).len
  refine ⟨l0, ?_⟩
  have o0 : ∀ x ∈ handsF0 ns, HTi x := fun x hx => by
    unfold handsF0 at hx
    obtain ⟨i, _, rfl⟩ := List.mem_map.mp hx
    exact hand_ti _ _ _ _
  have oz : HTi ((handsF0 ns).getD 0 (0, 0)) ∨ handsF0 ns = [] := by
    cases q : handsF0 ns with
    | nil => exact .inr rfl
    | cons x xs => exact .inl (o0 x (by rw [q]; simp))
  unfold handsF
  split
  · intro x hx
    obtain ⟨y, hy, rfl⟩ := List.mem_map.mp hx
    rcases oz with z | z
    · exact ⟨(o0 y hy).lo, (o0 y hy).hi, (o0 y hy).de, z.br⟩
    · rw [z] at hy; cases hy
  · split
    · intro x hx
      obtain ⟨y, hy, rfl⟩ := List.mem_map.mp hx
      rcases oz with z | z
      · exact z
      · rw [z] at hy; cases hy
    · exact o0
theorem map_ok {l : List Hd} {f : Hd → Hd} (h : l.length ≤ 63) (hf : ∀ x ∈ l, HOk (f x)) : HsOk (l.map f) := ⟨by rw [List.length_map]; exact h, fun y hy => by
  obtain ⟨x, hx, rfl⟩ := List.mem_map.mp hy
  exact hf x hx⟩
theorem turn_ok {l : List Hd} {t : Rat} (h : HsTi l) (ht : Bd 140 t) : HsOk (l.map (turnF t)) := map_ok h.1 fun x hx => by
  refine ⟨fract_nonneg _, fract_lt _, (fract_bd (n := 180) ?_).mono (by decide), (h.2 x hx).br.mono (by decide)⟩
  have h1 := den_add x.2 t
  have h2 := mul_lt_pow (h.2 x hx).de ht.de
  exact Nat.lt_of_le_of_lt h1 h2
theorem mirr_ok {l : List Hd} (h : HsTi l) : HsOk (l.map mirrF) := map_ok h.1 fun x hx => by
  refine ⟨fract_nonneg _, fract_lt _, (fract_bd (n := 40) ?_).mono (by decide), (h.2 x hx).br.neg.mono (by decide)⟩
  rw [Rat.neg_den]
  exact (h.2 x hx).de
theorem seen_ok {l : List Hd} {o : Hd} (h : HsTi l) (ho : o ∈ l) : HsOk (l.map (seenF o)) := map_ok h.1 fun x hx => by
  refine ⟨fract_nonneg _, fract_lt _, (fract_bd (n := 80) ?_).mono (by decide), ((h.2 x hx).br.sub (h.2 o ho).br).mono (by decide)⟩
  rw [Rat.sub_eq_add_neg]
  have h1 := den_add x.2 (-o.2)
  rw [Rat.neg_den] at h1
  exact Nat.lt_of_le_of_lt h1 (mul_lt_pow (h.2 x hx).de (h.2 o ho).de)
theorem late_ok {l : List Hd} {t : Rat} (h : HsTi l) (ht : Bd 140 t) : HsOk (l.map (lateF t)) := map_ok h.1 fun x hx => by
  refine ⟨fract_nonneg _, fract_lt _, (fract_bd (n := 180) ?_).mono (by decide), (h.2 x hx).br.mono (by decide)⟩
  have h1 := den_add x.2 (t * x.1)
  have h2 := den_mulI t x.1
  have h3 := mul_lt_pow (h.2 x hx).de (Nat.lt_of_le_of_lt h2 ht.de)
  exact Nat.lt_of_le_of_lt h1 h3
theorem hands_ne {ns : List Int} (h : ns ≠ []) : 0 < (handsF ns).length := by
  have h1 : 0 < (handsF0 ns).length := by
    unfold handsF0 cellsF
    rw [List.length_map, List.length_range, List.length_take]
    have := List.length_pos_iff.mpr h
    split <;> omega
  unfold handsF
  split
  · rw [List.length_map]; exact h1
  · split
    · rw [List.length_map]; exact h1
    · exact h1
end HM

/-! Mth8 -/
namespace HM
/-! ### what answers show -/
def alikeB (l : List Hd) : Bool := l.all fun h => decide (h = l.getD 0 (0, 0))
def idxH (l : List Hd) (k : Int) : Hd := l.getD k.toNat (0, 0)
def lawClash (x y z : Hd) : Bool :=
  let near := y.1 - x.1
  let far := z.1 - x.1
  let below := (x.2.den : Int) * (y.2.den : Int) * (z.2.den : Int)
  let first := (x.2.num * (y.2.den : Int) - y.2.num * (x.2.den : Int)) * (z.2.den : Int)
  let second := (x.2.num * (z.2.den : Int) - z.2.num * (x.2.den : Int)) * (y.2.den : Int)
  if near = 0 ∨ far = 0 then (decide (near = 0) && !decide (first = 0)) || (decide (far = 0) && !decide (second = 0))
  else !decide ((far / (Int.gcd near far : Int) * first - near / (Int.gcd near far : Int) * second) % below = 0)
theorem den_ne (q : Rat) : ((q.den : Int) : Rat) ≠ 0 := by
  rw [Ne, Rat.intCast_eq_zero_iff]
  have := q.den_pos
  omega
theorem den_pos' (q : Rat) : (0 : Int) < q.den := by have := q.den_pos; omega
theorem rat_split (q : Rat) : q = (q.num : Rat) / ((q.den : Int) : Rat) := by rw [← Rat.divInt_eq_div, Rat.num_divInt_den]
theorem cross_zero {a b : Rat} : a.num * (b.den : Int) - b.num * (a.den : Int) = 0 ↔ a = b := by
  constructor
  · intro h
    have h' : a.num * (b.den : Int) = b.num * (a.den : Int) := by omega
    exact (Rat.eq_iff_mul_eq_mul).mpr h'
  · rintro rfl
    omega
theorem part_den {a b : Rat} (a0 : 0 ≤ a) (a1 : a < 1) (b0 : 0 ≤ b) (b1 : b < 1) : (a - b).den = 1 ↔ a = b := by
  constructor
  · intro h
    have := part_diff a0 a1 b0 b1 h
    grind
  · rintro rfl
    have : a - a = 0 := by grind
    rw [this]
    rfl
theorem wh_emod {x b : Int} (hb : 0 < b) : x % b = 0 ↔ Wh ((x : Rat) / (b : Rat)) := by
  have hb' : (b : Rat) ≠ 0 := by rw [Ne, Rat.intCast_eq_zero_iff]; omega
  constructor
  · intro h
    obtain ⟨k, hk⟩ := Int.dvd_of_emod_eq_zero h
    refine ⟨k, ?_⟩
    rw [hk, Rat.intCast_mul]
    grind
  · rintro ⟨k, hk⟩
    have : (x : Rat) = ((k * b : Int) : Rat) := by
      rw [Rat.intCast_mul, ← hk]
      grind
    have e := Rat.intCast_inj.mp this
    rw [e, Int.mul_emod_left]
theorem lawClash_eq {x y z : Hd} (hx : 0 ≤ x.2 ∧ x.2 < 1) (hy : 0 ≤ y.2 ∧ y.2 < 1) (hz : 0 ≤ z.2 ∧ z.2 < 1) : lawClash x y z = clashF x y z := by
  unfold lawClash clashF
  dsimp only
  have dx := den_pos' x.2
  have dy := den_pos' y.2
  have dz := den_pos' z.2
  have e1 : ((x.2.num * (y.2.den : Int) - y.2.num * (x.2.den : Int)) * (z.2.den : Int) = 0) ↔ (x.2 - y.2).den = 1 := by
    rw [part_den hx.1 hx.2 hy.1 hy.2, ← cross_zero, Int.mul_eq_zero]
    omega
  have e2 : ((x.2.num * (z.2.den : Int) - z.2.num * (x.2.den : Int)) * (y.2.den : Int) = 0) ↔ (x.2 - z.2).den = 1 := by
    rw [part_den hx.1 hx.2 hz.1 hz.2, ← cross_zero, Int.mul_eq_zero]
    omega
  split
  · congr 2
    · rw [← decide_not]
      exact decide_eq_decide.mpr (by rw [e1])
    · rw [← decide_not]
      exact decide_eq_decide.mpr (by rw [e2])
  · rw [← decide_not]
    refine decide_eq_decide.mpr ?_
    rw [Ne, ← wh_den]
    refine not_congr ?_
    rw [wh_emod (Int.mul_pos (Int.mul_pos dx dy) dz)]
    generalize (z.1 - x.1) / (Int.gcd (y.1 - x.1) (z.1 - x.1) : Int) = f
    generalize (y.1 - x.1) / (Int.gcd (y.1 - x.1) (z.1 - x.1) : Int) = n
    have hx' := rat_split x.2
    have hy' := rat_split y.2
    have hz' := rat_split z.2
    have nx := den_ne x.2
    have ny := den_ne y.2
    have nz := den_ne z.2
    have : ((f * ((x.2.num * (y.2.den : Int) - y.2.num * (x.2.den : Int)) * (z.2.den : Int)) - n * ((x.2.num * (z.2.den : Int) - z.2.num * (x.2.den : Int)) * (y.2.den : Int)) : Int) : Rat) / (((x.2.den : Int) * (y.2.den : Int) * (z.2.den : Int) : Int) : Rat)
        = (x.2 - y.2) * (f : Rat) - (x.2 - z.2) * (n : Rat) := by
      simp only [Rat.intCast_mul, Rat.intCast_sub]
      generalize (x.2.num : Rat) = a at *
      generalize ((x.2.den : Int) : Rat) = a' at *
      generalize (y.2.num : Rat) = b at *
      generalize ((y.2.den : Int) : Rat) = b' at *
      generalize (z.2.num : Rat) = c at *
      generalize ((z.2.den : Int) : Rat) = c' at *
      rw [hx', hy', hz']
      grind
    rw [this]
/-- of a list of numbers of hands -/
def nevB (l : List Hd) (ks : List Int) (sorted : Bool) : Bool :=
  (decide (2 ≤ ks.length) && decide (ks.length ≤ 3)) && (ks.all (fun k => decide (0 ≤ k) && decide (k < (l.length : Int))) && (sorted && clashF (idxH l (ks.getD 0 0)) (idxH l (ks.getD 1 0)) (idxH l (ks.getLastD 0))))
/-- of a time and an every -/
def atB (l : List Hd) (q : Rat) (n : Nat) : Bool := decide (0 ≤ q) && (decide (n = gapF l) && (decide (q.num * (n : Int) < (q.den : Int)) && togB l q))
theorem lt_one {q : Rat} {n : Nat} (hn : 0 < n) : q < Rat.divInt 1 (n : Int) ↔ q.num * (n : Int) < (q.den : Int) := by
  obtain ⟨a, b⟩ := one_made hn
  rw [Rat.lt_iff, a, b, Int.one_mul]
theorem lt_one' {q : Rat} {n : Nat} (hn : 0 < n) : q * ((n : Int) : Rat) < 1 ↔ q.num * (n : Int) < (q.den : Int) := by
  have h1 : (0 : Rat) < ((n : Int) : Rat) := by
    have : ((0 : Int) : Rat) < ((n : Int) : Rat) := Rat.intCast_lt_intCast.mpr (by omega)
    exact this
  have h2 : (0 : Rat) < ((q.den : Int) : Rat) := by
    have : ((0 : Int) : Rat) < ((q.den : Int) : Rat) := Rat.intCast_lt_intCast.mpr (den_pos' q)
    exact this
  have e : q * ((q.den : Int) : Rat) = (q.num : Rat) := by
    have := rat_split q
    have := den_ne q
    grind
  have h3 : q.num * (n : Int) < (q.den : Int) ↔ (q.num : Rat) * ((n : Int) : Rat) < ((q.den : Int) : Rat) := by
    rw [← Rat.intCast_mul, Rat.intCast_lt_intCast]
  rw [h3, ← e]
  have e2 : q * ((q.den : Int) : Rat) * ((n : Int) : Rat) = (q * ((n : Int) : Rat)) * ((q.den : Int) : Rat) := by grind
  rw [e2]
  constructor
  · intro h
    have := Rat.mul_lt_mul_of_pos_right h h2
    rwa [Rat.one_mul] at this
  · intro h
    have h' : q * ((n : Int) : Rat) * ((q.den : Int) : Rat) < 1 * ((q.den : Int) : Rat) := by rwa [Rat.one_mul]
    exact (Rat.mul_lt_mul_right h2).mp h'
/-! ### pairs -/
def fracB (a b : Int) : Bool := decide (0 < b) && decide ((Int.gcd a b : Int) = 1)
theorem frac_made {a b : Int} (hb : 0 < b) : ((Rat.divInt a b).num = a ∧ ((Rat.divInt a b).den : Int) = b) ↔ (Int.gcd a b : Int) = 1 := by
  rw [made_num hb, made_den hb]
  constructor
  · rintro ⟨_, h⟩
    obtain ⟨k, hk⟩ := Int.gcd_dvd_right (a := a) (b := b)
    have g0 : (Int.gcd a b : Int) ≠ 0 := fun z => by rw [z, Int.zero_mul] at hk; omega
    have e : b / (Int.gcd a b : Int) = k := by
      conv => lhs; lhs; rw [hk]
      exact Int.mul_ediv_cancel_left _ g0
    rw [e] at h
    subst h
    have : ((Int.gcd a k : Int) - 1) * k = 0 := by
      rw [Int.sub_mul, Int.one_mul, ← hk]
      exact Int.sub_self _
    rcases Int.mul_eq_zero.mp this with z | z
    · omega
    · omega
  · intro h
    rw [h, Int.ediv_one, Int.ediv_one]
    exact ⟨rfl, rfl⟩
theorem frac_rat {a b : Int} (h : fracB a b = true) : 0 < b ∧ (Rat.divInt a b).num = a ∧ ((Rat.divInt a b).den : Int) = b := by
  unfold fracB at h
  rw [Bool.and_eq_true] at h
  have h0 := of_decide_eq_true h.1
  exact ⟨h0, (frac_made h0).mpr (of_decide_eq_true h.2)⟩
/-- of a time and an every that are any pairs -/
def atG (l : List Hd) (a b c d : Int) : Bool := fracB a b && (fracB c d && (decide (0 ≤ a) && (decide (c = 1 ∧ d = (gapF l : Int)) && (decide (Rat.divInt a b < Rat.divInt c d) && togB l (Rat.divInt a b)))))
theorem atG_at {l : List Hd} {q : Rat} {n : Nat} (hn : 0 < n) : atG l q.num (q.den : Int) 1 (n : Int) = atB l q n := by
  unfold atG atB
  have e1 : fracB q.num (q.den : Int) = true := by
    unfold fracB
    have h2 : Int.gcd q.num q.den = 1 := q.reduced
    rw [decide_eq_true (den_pos' q), h2]
    rfl
  have e2 : fracB 1 (n : Int) = true := by
    unfold fracB
    rw [decide_eq_true (by omega), Int.one_gcd]
    rfl
  have e3 : decide (0 ≤ q.num) = decide (0 ≤ q) := decide_eq_decide.mpr Rat.num_nonneg
  have e4 : decide ((1 : Int) = 1 ∧ (n : Int) = (gapF l : Int)) = decide (n = gapF l) := decide_eq_decide.mpr ⟨fun h => by omega, fun h => ⟨rfl, by omega⟩⟩
  rw [e1, e2, e3, e4, Rat.num_divInt_den, decide_eq_decide.mpr (lt_one hn)]
  rfl
theorem frac_one {n : Nat} (hn : 0 < n) : fracB 1 (n : Int) = true := by
  unfold fracB
  rw [decide_eq_true (by omega), Int.one_gcd]
  rfl
/-! ### gaps by rates -/
def gapR (rs : List Int) : Nat := rs.foldl (fun g r => Int.gcd g (r - rs.getD 0 0)) 0
theorem gapR_eq (l : List Hd) : gapR (l.map Prod.fst) = gapF l := by
  unfold gapR gapF
  rw [List.foldl_map]
  have : (l.map Prod.fst).getD 0 0 = (l.getD 0 (0, 0)).1 := by cases l <;> rfl
  rw [this]
theorem gapR_step {rs : List Int} {c r : Int} {i : Nat} (h : rs[i]? = some r) : (rs.take (i + 1)).foldl (fun g r => Int.gcd g (r - c)) 0 = Int.gcd (((rs.take i).foldl (fun g r => Int.gcd g (r - c)) 0 : Nat) : Int) (r - c) := by
  rw [List.take_succ, h, List.foldl_append]
  rfl
theorem gapR_three (n f : Int) : gapR [0, n, f] = Int.gcd n f := by
  unfold gapR
  simp [List.foldl, Int.gcd]
/-! ### alike -/
theorem rep_iff {α : Type} (xs : List α) : xs = (List.replicate xs.length (xs.take 1)).flatten ↔ ∀ x ∈ xs, xs.head? = some x := by
  cases xs with
  | nil => simp
  | cons x xs =>
    have e : (x :: xs).take 1 = [x] := rfl
    rw [e, List.flatten_replicate_singleton, List.eq_replicate_iff]
    constructor
    · rintro ⟨_, h⟩ y hy
      rw [h y hy]
      rfl
    · intro h
      refine ⟨rfl, fun y hy => ?_⟩
      have := h y hy
      simp at this
      exact this.symm
theorem tog_rep (l : List Hd) (t : Rat) : togB l t = true ↔ (l.map fun h => plc h t) = (List.replicate (l.map fun h => plc h t).length ((l.map fun h => plc h t).take 1)).flatten := by
  rw [rep_iff]
  unfold togB
  rw [List.all_eq_true]
  cases l with
  | nil => simp
  | cons x xs =>
    simp only [List.mem_map, List.map_cons, List.head?_cons]
    constructor
    · rintro h y hy
      rcases List.mem_cons.mp hy with rfl | hy
      · rfl
      · obtain ⟨z, hz, rfl⟩ := List.mem_map.mp hy
        rw [of_decide_eq_true (h z (List.mem_cons_of_mem _ hz))]
        rfl
    · intro h y hy
      have := h (plc y t) (by
        rcases List.mem_cons.mp hy with rfl | hy
        · exact List.mem_cons_self ..
        · exact List.mem_cons_of_mem _ (List.mem_map.mpr ⟨y, hy, rfl⟩))
      apply decide_eq_true
      injection this with this
      exact this.symm
theorem ex_min : ∀ {ks : List Int}, ks ≠ [] → ∃ m ∈ ks, ∀ y ∈ ks, m ≤ y
  | [], h => absurd rfl h
  | [k], _ => ⟨k, List.mem_cons_self .., fun y hy => by rw [List.mem_singleton] at hy; omega⟩
  | k :: k' :: ks, _ => by
    obtain ⟨m, hm, h⟩ := ex_min (ks := k' :: ks) (by simp)
    by_cases hk : k ≤ m
    · refine ⟨k, List.mem_cons_self .., fun y hy => ?_⟩
      rcases List.mem_cons.mp hy with rfl | hy
      · omega
      · have := h y hy; omega
    · refine ⟨m, List.mem_cons_of_mem _ hm, fun y hy => ?_⟩
      rcases List.mem_cons.mp hy with rfl | hy
      · omega
      · exact h y hy
theorem ex_max : ∀ {ks : List Int}, ks ≠ [] → ∃ m ∈ ks, ∀ y ∈ ks, y ≤ m
  | [], h => absurd rfl h
  | [k], _ => ⟨k, List.mem_cons_self .., fun y hy => by rw [List.mem_singleton] at hy; omega⟩
  | k :: k' :: ks, _ => by
    obtain ⟨m, hm, h⟩ := ex_max (ks := k' :: ks) (by simp)
    by_cases hk : m ≤ k
    · refine ⟨k, List.mem_cons_self .., fun y hy => ?_⟩
      rcases List.mem_cons.mp hy with rfl | hy
      · omega
      · have := h y hy; omega
    · refine ⟨m, List.mem_cons_of_mem _ hm, fun y hy => ?_⟩
      rcases List.mem_cons.mp hy with rfl | hy
      · omega
      · exact h y hy
theorem last_some {ks : List Int} (h : ks ≠ []) : ks.getLast? = some (ks.getLastD 0) := by
  rw [List.getLastD_eq_getLast?]
  cases q : ks.getLast? with
  | none => exact absurd (List.getLast?_eq_none_iff.mp q) h
  | some x => rfl
theorem at_shows {l : List Hd} {q : Rat} {n : Nat} (h : ToldOk l (.at_ q n)) : atB l q n = true := by
  obtain ⟨h0, h1, h2, h3, h4, h5⟩ := h
  unfold atB
  rw [decide_eq_true h3, decide_eq_true (gap_unique h1 h2), decide_eq_true ((lt_one' h0).mp h4), togB_iff.mpr h5]
  rfl
theorem always_shows {l : List Hd} (h : ToldOk l .always) : alikeB l = true := List.all_eq_true.mpr fun x hx => decide_eq_true (h x hx)
theorem never_shows {l : List Hd} {ks : List Int} (h : ToldOk l (.never ks)) : nevB l ks true = true ∧ ks.Pairwise (· < ·) ∧ 2 ≤ ks.length ∧ ks.length ≤ 3 ∧ (∀ k ∈ ks, 0 ≤ k ∧ k < (l.length : Int)) := by
  obtain ⟨a, b, ha, hb, a0, ab, la, lb, hc, rfl⟩ := h
  have la' := (List.getElem?_eq_some_iff.mp la).1
  have lb' := (List.getElem?_eq_some_iff.mp lb).1
  have ga : idxH l (a : Int) = ha := by
    unfold idxH
    rw [Int.toNat_natCast, List.getD_eq_getElem?_getD, la]
    rfl
  have gb : idxH l (b : Int) = hb := by
    unfold idxH
    rw [Int.toNat_natCast, List.getD_eq_getElem?_getD, lb]
    rfl
  have g0 : idxH l 0 = l.getD 0 (0, 0) := rfl
  have c1 : decide ((0 : Int) < (l.length : Int)) = true := decide_eq_true (by omega)
  have c2 : decide ((a : Int) < (l.length : Int)) = true := decide_eq_true (by omega)
  have c3 : decide ((b : Int) < (l.length : Int)) = true := decide_eq_true (by omega)
  have c4 : decide ((0 : Int) ≤ (a : Int)) = true := decide_eq_true (by omega)
  have c5 : decide ((0 : Int) ≤ (b : Int)) = true := decide_eq_true (by omega)
  split
  · rename_i e
    subst e
    rw [la] at lb
    cases lb
    refine ⟨?_, by simp; omega, by simp, by simp, fun k hk => ?_⟩
    · unfold nevB
      show (true && (((true && decide ((0 : Int) < (l.length : Int))) && ((decide ((0 : Int) ≤ (a : Int)) && decide ((a : Int) < (l.length : Int))) && true)) && (true && clashF (idxH l 0) (idxH l (a : Int)) (idxH l (a : Int))))) = true
      rw [c1, c2, c4, ga, g0, hc]
      rfl
    · simp at hk
      omega
  · rename_i e
    refine ⟨?_, by simp; omega, by simp, by simp, fun k hk => ?_⟩
    · unfold nevB
      show (true && (((true && decide ((0 : Int) < (l.length : Int))) && ((decide ((0 : Int) ≤ (a : Int)) && decide ((a : Int) < (l.length : Int))) && ((decide ((0 : Int) ≤ (b : Int)) && decide ((b : Int) < (l.length : Int))) && true))) && (true && clashF (idxH l 0) (idxH l (a : Int)) (idxH l (b : Int))))) = true
      rw [c1, c2, c3, c4, c5, ga, gb, g0, hc]
      rfl
    · simp at hk
      omega
theorem told_two : toldF [(0, 0), (0, Rat.divInt 1 2)] = .never [0, 1] := by
  unfold toldF
  show loopT (0, 0) [] [(0, 0), (0, Rat.divInt 1 2)] 0 0 = _
  unfold loopT
  rw [if_pos (by decide), if_neg (by decide +kernel)]
  unfold loopT
  rw [if_pos (by decide), if_pos (by decide +kernel)]
  rfl
theorem told_ten : toldF [(24, 0), (2, 0)] = .at_ 0 22 := by
  unfold toldF
  show loopT (24, 0) [] [(24, 0), (2, 0)] 0 0 = _
  unfold loopT
  rw [if_pos (by decide), if_neg (by decide +kernel)]
  unfold loopT
  rw [if_neg (by decide), if_pos rfl]
  unfold loopT
  rw [if_neg (by decide)]
  have e : ((0 : Rat) - 0) / (((2 - 24 : Int) : Int) : Rat) = 0 := by decide +kernel
  show Ans.at_ (fract (((0 : Rat) - 0) / (((2 - 24 : Int) : Int) : Rat) * ((22 : Nat) : Int)) / (((22 : Nat) : Int) : Rat)) 22 = _
  rw [e]
  have e2 : fract ((0 : Rat) * (((22 : Nat) : Int) : Rat)) / (((22 : Nat) : Int) : Rat) = 0 := by decide +kernel
  rw [e2]
theorem always_alike {l : List Hd} (ok : ToldOk l (toldF l)) : (toldF l = .always ↔ alikeB l = true) := by
  rw [always_iff ok]
  unfold alikeB
  rw [List.all_eq_true]
  exact ⟨fun h x hx => decide_eq_true (h x hx), fun h x hx => of_decide_eq_true (h x hx)⟩
end HM

/-! Mth9 -/
namespace HM
/-! ### the next time, how often -/
theorem floor_made {a b : Int} (hb : 0 < b) : (Rat.divInt a b).floor = a / b := by
  have h := fract_made (a := a) (b := b) hb
  unfold fract at h
  have hb' : (b : Rat) ≠ 0 := by rw [Ne, Rat.intCast_eq_zero_iff]; omega
  have hq : (a % b : Int) = a - b * (a / b) := by
    have := Int.emod_add_mul_ediv a b
    omega
  rw [hq, Rat.divInt_eq_div, Rat.divInt_eq_div, Rat.intCast_sub, Rat.intCast_mul] at h
  have e : (((a : Rat) / (b : Rat)).floor : Rat) = ((a / b : Int) : Rat) := by
    have : ((a : Rat) - (b : Rat) * ((a / b : Int) : Rat)) / (b : Rat) = (a : Rat) / (b : Rat) - ((a / b : Int) : Rat) := by grind
    rw [this] at h
    grind
  rw [Rat.divInt_eq_div]
  exact Rat.intCast_inj.mp e
theorem from_made {q t : Rat} {n : Nat} : -(-((t.num * (q.den : Int) - q.num * (t.den : Int)) * (n : Int)) / ((t.den : Int) * (q.den : Int))) = cnt q n t := by
  rw [floor_cnt, ← floor_made (Int.mul_pos (den_pos' t) (den_pos' q))]
  congr 2
  have ht := rat_split t
  have hq := rat_split q
  have nt := den_ne t
  have nq := den_ne q
  rw [Rat.divInt_eq_div, Rat.intCast_neg, Rat.intCast_mul, Rat.intCast_mul, Rat.intCast_sub, Rat.intCast_mul, Rat.intCast_mul]
  generalize (t.num : Rat) = a at *
  generalize ((t.den : Int) : Rat) = b at *
  generalize (q.num : Rat) = c at *
  generalize ((q.den : Int) : Rat) = d at *
  rw [ht, hq]
  grind
theorem cnt_mono {q s t : Rat} {n : Nat} (h : s ≤ t) : cnt q n s ≤ cnt q n t := by
  rw [floor_cnt, floor_cnt]
  have hn : (0 : Rat) ≤ ((n : Int) : Rat) := Rat.intCast_nonneg.mpr (by omega)
  have h1 : (s + -q) * ((n : Int) : Rat) ≤ (t + -q) * ((n : Int) : Rat) := Rat.mul_le_mul_of_nonneg_right (by grind) hn
  have := Rat.floor_monotone (a := -((t + -q) * ((n : Int) : Rat))) (b := -((s + -q) * ((n : Int) : Rat))) (by grind)
  omega
theorem num_pos' {q : Rat} : 0 < q ↔ 0 < q.num := by
  rw [Rat.lt_iff]
  have e : (0 : Rat).num * (q.den : Int) = 0 := by show (0 : Int) * _ = 0; exact Int.zero_mul _
  have e2 : q.num * ((0 : Rat).den : Int) = q.num := by show q.num * 1 = _; exact Int.mul_one _
  rw [e, e2]
theorem nat_pos {n : Nat} (hn : 0 < n) : (0 : Rat) < ((n : Int) : Rat) := Rat.intCast_pos.mpr (by omega)
theorem one_div {n : Nat} : Rat.divInt 1 (n : Int) = 1 / ((n : Int) : Rat) := by
  rw [Rat.divInt_eq_div]
  rfl
/-- the step to the next time -/
theorem next_step {q t : Rat} {n : Nat} (hn : 0 < n) : ∃ f : Rat, nextF q n t = t + f ∧ 0 < f ∧ f * ((n : Int) : Rat) ≤ 1 ∧ Wh (((n : Int) : Rat) * (nextF q n t - q)) := by
  have np := nat_pos hn
  have nz : ((n : Int) : Rat) ≠ 0 := fun z => by rw [z] at np; exact absurd np (by decide)
  generalize hg : fract ((q + -t) * ((n : Int) : Rat)) = g
  have g0 : 0 ≤ g := hg ▸ fract_nonneg _
  have g1 : g < 1 := hg ▸ fract_lt _
  have gw : Wh (g - (q + -t) * ((n : Int) : Rat)) := by
    refine ⟨-((q + -t) * ((n : Int) : Rat)).floor, ?_⟩
    rw [← hg, Rat.intCast_neg]
    unfold fract
    grind
  unfold nextF
  rw [hg]
  by_cases hp : 0 < (g / ((n : Int) : Rat)).num
  · rw [if_pos hp]
    refine ⟨_, rfl, num_pos'.mpr hp, ?_, ?_⟩
    · have : g / ((n : Int) : Rat) * ((n : Int) : Rat) = g := by grind
      rw [this]
      grind
    · have : ((n : Int) : Rat) * (t + g / ((n : Int) : Rat) - q) = g - (q + -t) * ((n : Int) : Rat) := by grind
      rw [this]
      exact gw
  · rw [if_neg hp, one_div]
    have gz : g = 0 := by
      have h1 : ¬ 0 < g / ((n : Int) : Rat) := fun z => hp (num_pos'.mp z)
      have h2 : ¬ 0 < g := fun z => h1 (by
        have : g / ((n : Int) : Rat) * ((n : Int) : Rat) = g := by grind
        by_cases hc : 0 < g / ((n : Int) : Rat)
        · exact hc
        · exfalso
          have hle : g / ((n : Int) : Rat) ≤ 0 := Rat.not_lt.mp hc
          have := Rat.mul_le_mul_of_nonneg_right hle (Rat.le_of_lt np)
          grind)
      grind
    have fz : 1 / ((n : Int) : Rat) * ((n : Int) : Rat) = 1 := by grind
    refine ⟨_, rfl, ?_, by rw [fz]; exact Rat.le_refl, ?_⟩
    · by_cases hc : 0 < 1 / ((n : Int) : Rat)
      · exact hc
      · exfalso
        have hle : 1 / ((n : Int) : Rat) ≤ 0 := Rat.not_lt.mp hc
        have := Rat.mul_le_mul_of_nonneg_right hle (Rat.le_of_lt np)
        grind
    · have : ((n : Int) : Rat) * (t + 1 / ((n : Int) : Rat) - q) = (g - (q + -t) * ((n : Int) : Rat)) + ((1 : Int) : Rat) := by
        have : ((1 : Int) : Rat) = 1 := rfl
        rw [this, gz]
        grind
      rw [this]
      exact gw.add (Wh.int 1)
theorem ahead_next {p : Rat} {n : Nat} (hn : 0 < n) : Rat.divInt (p.num * (n : Int) - (p.den : Int)) ((p.den : Int) * (n : Int)) = p - 1 / ((n : Int) : Rat) := by
  have np := nat_pos hn
  have nz : ((n : Int) : Rat) ≠ 0 := fun z => by rw [z] at np; exact absurd np (by decide)
  have hp := rat_split p
  have dp := den_ne p
  rw [Rat.divInt_eq_div, Rat.intCast_sub, Rat.intCast_mul, Rat.intCast_mul]
  generalize (p.num : Rat) = a at *
  generalize ((p.den : Int) : Rat) = b at *
  rw [hp]
  grind
theorem next_facts {l : List Hd} {q t : Rat} {n : Nat} (ok : ToldOk l (.at_ q n)) : t < nextF q n t ∧ togB l (nextF q n t) = true ∧ ¬ t < nextF q n t - 1 / ((n : Int) : Rat) ∧ nextF q n t ≤ t + 1 := by
  have hn := ok.1
  have np := nat_pos hn
  have nz : ((n : Int) : Rat) ≠ 0 := fun z => by rw [z] at np; exact absurd np (by decide)
  obtain ⟨f, e, f0, f1, wh⟩ := next_step (q := q) (t := t) hn
  have f2 : f ≤ 1 / ((n : Int) : Rat) := by
    by_cases hc : f ≤ 1 / ((n : Int) : Rat)
    · exact hc
    · exfalso
      have hlt : 1 / ((n : Int) : Rat) < f := Rat.not_le.mp hc
      have := Rat.mul_lt_mul_of_pos_right hlt np
      have e1 : 1 / ((n : Int) : Rat) * ((n : Int) : Rat) = 1 := by grind
      grind
  have f3 : f ≤ 1 := by
    by_cases hc : f ≤ 1
    · exact hc
    · exfalso
      have hlt : 1 < f := Rat.not_le.mp hc
      have h1 := Rat.mul_lt_mul_of_pos_right hlt np
      have h2 : (1 : Rat) ≤ ((n : Int) : Rat) := by
        have : ((1 : Int) : Rat) ≤ ((n : Int) : Rat) := Rat.intCast_le_intCast.mpr (by omega)
        exact this
      grind
  refine ⟨by rw [e]; grind, ?_, by rw [e]; grind, by rw [e]; grind⟩
  exact (at_times ok _).mpr wh
theorem next_bits {q t : Rat} {n b : Nat} {k : Int} (hn : 0 < n) (hq : q.den < 2 ^ 510) (hb : n < 2 ^ 101) (hk : k.natAbs < 2 ^ b) (h1 : -(k : Rat) ≤ nextF q n t) (h2 : nextF q n t ≤ (k : Rat)) : Bd (611 + b) (nextF q n t) := by
  obtain ⟨f, _, _, _, m, wh⟩ := next_step (q := q) (t := t) hn
  have np := nat_pos hn
  have nz : ((n : Int) : Rat) ≠ 0 := fun z => by rw [z] at np; exact absurd np (by decide)
  have e : nextF q n t = q + Rat.divInt m (n : Int) := by
    rw [Rat.divInt_eq_div, ← wh]
    grind
  refine val_num (a := 611) ?_ hk h1 h2
  have d1 := den_add q (Rat.divInt m (n : Int))
  have d2 := made_den_le (a := m) (b := (n : Int)) (by omega)
  rw [← e] at d1
  have d3 : (Rat.divInt m (n : Int)).den < 2 ^ 101 := by omega
  have d4 := mul_lt_pow hq d3
  rw [show (510 + 101 : Nat) = 611 from rfl] at d4
  exact Nat.lt_of_le_of_lt d1 d4
theorem num_abs {t : Rat} {b : Nat} (h : Bd b t) : ∃ k : Int, k.natAbs < 2 ^ b ∧ -(k : Rat) ≤ t ∧ t ≤ (k : Rat) := by
  refine ⟨(t.num.natAbs : Int), h.nu, ?_, ?_⟩
  · rw [← Rat.intCast_neg, Rat.le_iff]
    have := den_pos' t
    show -(t.num.natAbs : Int) * (t.den : Int) ≤ t.num * 1
    have h1 : (t.num.natAbs : Int) * 1 ≤ (t.num.natAbs : Int) * (t.den : Int) := Int.mul_le_mul_of_nonneg_left (by omega) (by omega)
    have h2 : -(t.num.natAbs : Int) * (t.den : Int) = -((t.num.natAbs : Int) * (t.den : Int)) := Int.neg_mul _ _
    omega
  · rw [Rat.le_iff]
    have := den_pos' t
    show t.num * 1 ≤ (t.num.natAbs : Int) * (t.den : Int)
    have h1 : (t.num.natAbs : Int) * 1 ≤ (t.num.natAbs : Int) * (t.den : Int) := Int.mul_le_mul_of_nonneg_left (by omega) (by omega)
    omega
theorem next_bd1 {l : List Hd} {q t : Rat} {n : Nat} (ok : ToldOk l (.at_ q n)) (hq : Bd 510 q) (hb : n < 2 ^ 101) (ht : Bd 140 t) : Bd 800 (nextF q n t) := by
  obtain ⟨h1, _, _, h4⟩ := next_facts (t := t) ok
  obtain ⟨k, k1, k2, k3⟩ := num_abs ht
  have kc : ((k + 1 : Int) : Rat) = (k : Rat) + 1 := by rw [Rat.intCast_add]; rfl
  have := next_bits (q := q) (t := t) (b := 141) (k := k + 1) ok.1 hq.de hb (by
    have : (2 : Nat) ^ 141 = 2 * 2 ^ 140 := by decide
    omega) (by rw [kc]; grind) (by rw [kc]; grind)
  exact this.mono (by decide)
theorem next_bd2 {l : List Hd} {q : Rat} {n : Nat} (ok : ToldOk l (.at_ q n)) (hq : Bd 510 q) (hb : n < 2 ^ 101) : Bd 800 (nextF q n q) := by
  obtain ⟨h1, _, _, h4⟩ := next_facts (t := q) ok
  have q0 := ok.2.2.2.1
  have q1 : q < 1 := by
    have h5 := ok.2.2.2.2.1
    have np := nat_pos ok.1
    by_cases hc : q < 1
    · exact hc
    · exfalso
      have hle : 1 ≤ q := Rat.not_lt.mp hc
      have h1 := Rat.mul_le_mul_of_nonneg_right hle (Rat.le_of_lt np)
      have h2 : (1 : Rat) ≤ ((n : Int) : Rat) := by
        have : ((1 : Int) : Rat) ≤ ((n : Int) : Rat) := Rat.intCast_le_intCast.mpr (by have := ok.1; omega)
        exact this
      grind
  have k2 : ((2 : Int) : Rat) = 2 := rfl
  exact (next_bits (q := q) (t := q) (b := 2) (k := 2) ok.1 hq.de hb (by decide) (by rw [k2]; grind) (by rw [k2]; grind)).mono (by decide)
end HM

/-! LayC -/
namespace HM
open PySem PySem.Spec PyProof.Rows L2
/-! ### slices with a step -/
def pickIx (n : Nat) (lo hi : Option Int) (st : Int) : List Nat := sliceRange (sliceBounds lo hi (some st) n).1 (sliceBounds lo hi (some st) n).2.1 (sliceBounds lo hi (some st) n).2.2
def pickL {α : Type} (xs : List α) (lo hi : Option Int) (st : Int) : List α := (pickIx xs.length lo hi st).filterMap (xs[·]?)
theorem pickL_mem {α : Type} {xs : List α} {lo hi : Option Int} {st : Int} {x : α} (h : x ∈ pickL xs lo hi st) : x ∈ xs := by
  unfold pickL at h
  obtain ⟨i, _, hi⟩ := List.mem_filterMap.mp h
  exact List.mem_of_getElem? hi
theorem pickL_map {α β : Type} (f : α → β) (xs : List α) (lo hi : Option Int) (st : Int) : pickL (xs.map f) lo hi st = (pickL xs lo hi st).map f := by
  unfold pickL
  rw [List.length_map, List.map_filterMap]
  congr 1
  funext i
  rw [List.getElem?_map]
theorem vals_pick {xs : List V} {us : List Value} (r : Vals xs us) : ∀ ix : List Nat, Vals (ix.filterMap (xs[·]?)) (ix.filterMap (us[·]?))
  | [] => .nil
  | i :: ix => by
    rw [List.filterMap_cons, List.filterMap_cons]
    cases q : xs[i]? with
    | none => rw [r.none_of q]; exact vals_pick r ix
    | some x =>
      obtain ⟨u, h1, h2⟩ := r.get q
      rw [h1]
      exact .cons h2 (vals_pick r ix)
theorem ats_pick {K : PySem.W.Frag} {G : Hp} {vs : List V} {ds : List D} (r : Ats K G vs ds) : ∀ ix : List Nat, Ats K G (ix.filterMap (vs[·]?)) (ix.filterMap (ds[·]?))
  | [] => .nil
  | i :: ix => by
    rw [List.filterMap_cons, List.filterMap_cons]
    cases q : ds[i]? with
    | none =>
      have : vs[i]? = none := by
        rw [List.getElem?_eq_none_iff] at q ⊢
        rw [r.len]
        exact q
      rw [this]
      exact ats_pick r ix
    | some x =>
      obtain ⟨u, h1, h2⟩ := r.get q
      rw [h1]
      exact .cons h2 (ats_pick r ix)
theorem pick_len_le {α : Type} (xs : List α) (lo hi : Option Int) (st : Int) : (pickL xs lo hi st).length ≤ xs.length := by
  have h := slicePick_size_le (Array.replicate xs.length Value.none) lo hi (some st)
  unfold slicePick at h
  rw [List.size_toArray, Array.size_replicate] at h
  unfold pickL
  refine Nat.le_trans ?_ h
  unfold pickIx
  generalize sliceRange _ _ _ = ix
  clear h
  induction ix with
  | nil => exact Nat.le_refl _
  | cons i ix ih =>
    rw [List.filterMap_cons, List.filterMap_cons]
    cases q : xs[i]? with
    | none =>
      have : (Array.replicate xs.length Value.none)[i]? = none := by
        rw [List.getElem?_eq_none_iff] at q
        rw [Array.getElem?_eq_none_iff, Array.size_replicate]
        exact q
      rw [this]
      exact ih
    | some x =>
      have : (Array.replicate xs.length Value.none)[i]? = some Value.none := by
        have hi := (List.getElem?_eq_some_iff.mp q).1
        rw [Array.getElem?_replicate, if_pos hi]
      rw [this]
      exact Nat.succ_le_succ ih
def tStep (K : PySem.W.Frag) (te : TE) (tl th : TO) (st : Int) : TE := fun σ H Q => te σ H fun x H1 => tl σ H1 fun lo H2 => th σ H2 fun hi H3 => ∃ a xs, x = .ref a ∧ SqL K H3 a xs ∧ ∀ p, H3 p = none → Q (.ref p) (upd H3 p (.lst (pickL xs lo hi st)))
section
variable {X : Cx} {K : PySem.W.Frag}
theorem pStep {e : Expr} {te : TE} {lo hi : Option Expr} {tl th : TO} {k : Nat} {st : Int} {p1 p3 pos : Pos} (he : PE X e te) (hl : PO X lo tl) (hu : PO X hi th) (h0 : st ≠ 0 := by decide) (hK : X.K = K := by rfl) :
    PE X (.Subscript e (.Slice lo hi (some (.Constant (.int st) k p1)) p3) pos) (tStep K te tl th st) := by
  subst hK
  refine ⟨fun pins s σ H Q I h => ?_⟩
  refine Subscript_ (thn (he.run pins s σ H _ I h) fun v s1 ⟨x, H1, I1, r1, q1⟩ => ?_)
  refine wpAny_Slice (thn (hl.run pins s1 σ H1 _ I1 q1) fun vl s2 ⟨l, H2, I2, pl, q2⟩ => thn (hu.run pins s2 σ H2 _ I2 q2) fun vu s3 ⟨u, H3, I3, pu, q3⟩ => ?_)
  obtain ⟨a, xs, ex, hx, q⟩ := q3
  subst ex
  cases r1
  have hst : PO X (some (.Constant (.int st) k p1)) (tPart (tC (.int st))) := po_some pe_int
  refine thn (hst.run pins s3 σ H3 (fun o H4 => o = some st ∧ H4 = H3) I3 ⟨st, rfl, rfl, rfl⟩) fun vs s4 ⟨o, H4, I4, ps, eo, e4⟩ => ?_
  subst eo e4
  have I5 : Inv X pins σ H4 { s4 with heap := s4.heap.push { cls := .type "slice", data := .fields #[vl, vu, vs] } } := I4.kept (t' := s4.toks) fun b ob q => Heap.get?_push_of_some _ q
  obtain ⟨its, r, ht, hz⟩ := I5.list hx
  have hlen := r.length
  show wpAny (model X.prog X.w) X.A (subscriptTail e (.Slice lo hi (some (.Constant (.int st) k p1)) p3) (.ref a) (.ref s4.heap.objs.size)) (EP X pins σ Q) X.xe { s4 with heap := s4.heap.push { cls := .type "slice", data := .fields #[vl, vu, vs] } }
  refine tail_any (ops := [.ref a, .ref s4.heap.objs.size]) ht.isList.typeIs (PySem.slot_list_getitem.lookup) ?_ (by with_unfolding_all rfl)
  refine wpAny_getItem_list_slice ht.isList (Heap.IsSliceOf.new _ vl vu vs) pl pu ps (by intro z; cases z; exact h0 rfl) ?_ (by rw [List.size_toArray]; omega)
  have e5 : slicePick its.toArray l u (some st) = (pickL its l u st).toArray := by
    unfold slicePick pickL pickIx
    rw [List.size_toArray]
    congr 2
    funext i
    rw [List.getElem?_toArray]
  rw [e5]
  refine ⟨.ref _, _, I5.laid (t' := s4.toks) (o := .lst (pickL xs l u st)) (fun b ob q => Heap.get?_push_of_some _ q) (Nat.le_refl _) ?_, rfl, q _ (I5.hok.fresh (Nat.le_refl _))⟩
  refine ⟨Nat.le_trans (pick_len_le xs l u st) hz, _, 0, ?_, Heap.get?_push_size _ rfl⟩
  unfold pickL
  rw [hlen]
  exact vals_pick r _
end
section
variable {K : PySem.W.Frag} {ds : Env} {ta tb te tl : TE} {t u : TS} {c : TT} {d : D} {s : S}
theorem ev_step {xs : List D} {tl th : TO} {lo hi : Option Int} {st : Int} (h : EvS K te ds (.p (.lst xs))) (h1 : EvO K tl ds lo) (h2 : EvO K th ds hi) : EvS K (tStep K te tl th st) ds (.o (pickL xs lo hi st)) := fun σ H0 G H Q e q =>
  h σ H0 G H _ e fun x G1 H1 g1 hx => h1 σ H0 G1 H1 _ (e.gr g1) fun G2 H2 g2 => h2 σ H0 G2 H2 _ ((e.gr g1).gr g2) fun G3 H3 g3 => by
    have hx' := (hx.mono g2.g).mono g3.g
    have g := (g1.trans g2).trans g3
    cases hx' with
    | lst k1 k2 => exact ⟨_, _, rfl, SqL.of (g3.s _ _ k1), fun p hp => q _ G3 _ (g.trans (.own g3.s hp)) ⟨p, _, rfl, g.h.free hp, g3.s.free hp, upd_same, by
        unfold pickL
        rw [k2.len]
        exact ats_pick k2 _⟩⟩
theorem ev_stepF {xs : List D} {tl th : TO} {lo hi : Option Int} {st : Int} (h : EvS K te ds (.p (.fz xs))) (h1 : EvO K tl ds lo) (h2 : EvO K th ds hi) : EvS K (tStep K te tl th st) ds (.o (pickL xs lo hi st)) := fun σ H0 G H Q e q =>
  h σ H0 G H _ e fun x G1 H1 g1 hx => h1 σ H0 G1 H1 _ (e.gr g1) fun G2 H2 g2 => h2 σ H0 G2 H2 _ ((e.gr g1).gr g2) fun G3 H3 g3 => by
    have hx' := (hx.mono g2.g).mono g3.g
    have g := (g1.trans g2).trans g3
    cases hx' with
    | fz k1 k2 => exact ⟨_, _, rfl, g3.s.seq k1, fun p hp => q _ G3 _ (g.trans (.own g3.s hp)) ⟨p, _, rfl, g.h.free hp, g3.s.free hp, upd_same, by
        unfold pickL
        rw [k2.len]
        exact ats_pick k2 _⟩⟩
/-! ### x.f.append(e), x a new instance of its own -/
def isP : Option S → Bool
  | none => true
  | some (.p _) => true
  | _ => false
theorem onlyP {ds : Env} (h : ds.all isP = true) {j : Nat} {s : S} (hj : ds[j]? = some (some s)) : ∃ d, s = .p d := by
  have := List.all_eq_true.mp h _ (List.mem_of_getElem? hj)
  cases s with
  | p d => exact ⟨d, rfl⟩
  | o xs => cases this
  | n C f xs => cases this
  | q xss => cases this
  | g kvs => cases this
variable {N : Env → Prop} {R : S → Prop}
theorem sd_fapp {i : Nat} {C : Addr} {f : Str} {xs : List D} (h : ds[i]? = some (some (.n C f xs))) (cl : Cls K C) (na : NoAttr K C f) (hno : (ds.set i none).all isP = true) (he : EvS K te (ds.set i none) (.p d)) (hl : xs.length < 1000) (hn : N (ds.set i (some (.n C f (xs ++ [d]))))) :
    SD K (tDrop (tBM K "list" rAppend (tFld K (tVar i) f) (tCons te tNil))) ds N R := fun E σ G0 H0 G H g e n r => by
  obtain ⟨v, hv, x, dx, q, vs, rfl, a1, a2, a3, a4, a5, a6, a7, a8⟩ := e.get i _ h
  have lk : List.lookup f [(f, V.ref q)] = some (V.ref q) := by simp
  have ed : En K H0 G H σ (ds.set i none) := e.drop (by rw [List.length_set]) fun j s hj => by
    rcases get_set hj with ⟨_, z⟩ | ⟨_, z⟩
    · cases z
    · exact z
  refine ⟨_, hv, x, C, dx, _, _, rfl, a6, cl, na, lk, .inl ⟨rfl, _, SqL.of a7⟩, he σ H0 G H _ ed fun w G1 H1 g1 hw => ?_⟩
  have e1 := e.gr g1
  obtain ⟨v', hv', x', dx', q', vs', ex, b1, b2, b3, b4, b5, b6, b7, b8⟩ := e1.get i _ h
  rw [hv] at hv'
  cases hv'
  cases ex
  have hx6 := g1.h _ _ a6
  rw [b6] at hx6
  cases hx6
  refine ⟨q, _, w, rfl, rfl, b7, Nat.lt_of_lt_of_le (m := 1000) (by rw [b8.len]; exact hl) (by decide), ?_⟩
  have gg : Gr G0 H0 G1 (upd H1 q (.lst (vs' ++ [w]))) := (g.trans g1).mut b3 b4
  refine n _ σ G1 _ gg g1.g ⟨e1.h0.putR b3, gg.s, by rw [List.length_set]; exact e1.len, fun j s hj => ?_, fun j k ys zs hj hk z => ?_⟩ hn
  · rcases get_set hj with ⟨rfl, z⟩ | ⟨hne, z⟩
    · cases z
      exact ⟨_, hv, x, dx, q, _, rfl, b1, b2, b3, b4, b5, by rw [upd_ne b5]; exact b6, upd_same, b8.app (.one hw)⟩
    · obtain ⟨u, hu, ha⟩ := e1.get j s z
      have : (ds.set i none)[j]? = some (some s) := by rw [List.getElem?_set_ne (Ne.symm hne)]; exact z
      obtain ⟨d', rfl⟩ := onlyP hno this
      exact ⟨u, hu, ha⟩
  · rcases get_set hj with ⟨rfl, z'⟩ | ⟨hne, z'⟩
    · cases z'
    · have : (ds.set i none)[j]? = some (some (.o ys)) := by rw [List.getElem?_set_ne (Ne.symm hne)]; exact z'
      obtain ⟨d', hd'⟩ := onlyP hno this
      cases hd'
theorem ev_varF {i : Nat} (h : ds[i]? = some (some s)) (e : frzS s = some (.p d)) : EvS K (tVar i) (frzE ds) (.p d) := ev_var (by
  unfold frzE
  rw [List.getElem?_map, h]
  show some (frzS s) = _
  rw [e])
end
/-! ### o.m(e, ..) of an own method -/
section
variable {X : Cx} {o e : Expr} {es : List Expr} {to : TE} {t : TA} {p pos apos : Pos}
theorem pMeth {C : Addr} {m : Str} {k : Nat} {ps : List Str} {sp : Sp} (M : MCallee X.prog X.w X.K X.mg X.base C m k ps sp) (c : Cls X.K C) (hr : Room k X.A) (ho : PE X o to) (ha : PA X (e :: es) t)
    (hst : starEach (e :: es) X.env = (false, eval e X.env) :: starEach es X.env := by rfl) (hpl : (backTo pos (starEach es X.env)).any (·.1) = false := by rfl)
    (ht : ∃ pl : Sem Bool, eval (.Call (.Attribute o m apos) (e :: es) [] pos) X.env = (do
      let ov ← eval o X.env
      standAt apos.atName
      let (f, first) ← holding [ov] (getMethod ov m pl)
      callWith pos f first (backTo pos (starEach (e :: es) X.env)) (backToKw pos (keywordEach [] X.env))) := by exact ⟨_, rfl⟩) : PE X (.Call (.Attribute o m apos) (e :: es) [] pos) (tMeth C m sp [] E0 to t) := by
  obtain ⟨f, fd, F, M, hb⟩ := M
  obtain ⟨pl, ht⟩ := ht
  exact pe_meth ho c M F hr hb .nil pass0 ha hst hpl ht
end
end HM

/-! LayD -/
namespace HM
open PySem L2
/-! ### sorted of ints -/
def sortL (ns : List Int) : List Int := ns.mergeSort (fun a b => decide (a ≤ b))
theorem sortL_perm (ns : List Int) : (sortL ns).Perm ns := List.mergeSort_perm ns _
theorem sortL_pw (ns : List Int) : (sortL ns).Pairwise (· ≤ ·) := by
  have h := List.pairwise_mergeSort (le := fun a b : Int => decide (a ≤ b)) (fun a b c h1 h2 => by simp at *; omega) (fun a b => by simp; omega) ns
  exact h.imp fun h => by simpa using h
theorem sortL_len (ns : List Int) : (sortL ns).length = ns.length := (sortL_perm ns).length_eq
theorem sortL_unique {ns ms : List Int} (hp : ms.Perm ns) (hs : ms.Pairwise (· ≤ ·)) : ms = sortL ns :=
  List.Perm.eq_of_pairwise (le := fun a b : Int => a ≤ b) (fun a b _ _ h1 h2 => Int.le_antisymm h1 h2) hs (sortL_pw ns) (hp.trans (sortL_perm ns).symm)
section
variable {K : PySem.W.Frag} {ds : Env} {ta tb te tl : TE} {t u : TS} {c : TT} {d : D} {s : S}
theorem ev_sorted {ta : TA} {ns : List Int} (h : EvA K ta ds [.lst (ns.map I)]) (hl : ns.length < 64) : EvS K (tCB (rSorted K) ta) ds (.o ((sortL ns).map I)) := ev_cb h fun G H vs Q e hv q => by
  cases hv with
  | cons h t => cases t; cases h with
    | lst h1 h2 =>
      cases ats_ints h2
      refine ⟨_, ns, rfl, SqL.of (e _ _ h1), hl, fun ms p hm1 hm2 hp => ?_⟩
      cases sortL_unique hm1 hm2
      exact q _ G _ (.own e hp) ⟨p, _, rfl, hp, e.free hp, upd_same, ints_ats _⟩
/-- C(xs) of an owned list, which it copies -/
theorem en_makeO {C : Addr} {f : Str} {E : XK} {i : Nat} {xs : List D} (h : ds[i]? = some (some (.o xs))) : EvS K (tMake C (spIL K C f) [] E (tCons (tVar i) tNil)) ds (.n C f xs) := fun σ H0 G H Q e q => by
  obtain ⟨l, vs, h1, h2, h3, h4, h5⟩ := e.own h
  refine ⟨_, h1, ?_⟩
  intro x dx hx hdx hne
  have k0 : ∀ a o, H a = some o → (upd (upd H dx (.own x)) x (.ins C dx [])) a = some o := fun a o ha => by
    rw [upd_ne (ne_of_none ha hx), upd_ne (ne_of_none ha hdx)]
    exact ha
  refine ⟨x, dx, _, _, rfl, upd_same, SqL.of (k0 _ _ h4), fun H' r hr hk hr' hx' => ⟨rfl, ?_⟩⟩
  have nrx : r ≠ x := fun z => by rw [z, upd_same] at hr; cases hr
  have nrd : r ≠ dx := fun z => by rw [z, upd_ne hne, upd_same] at hr; cases hr
  have hr1 : H r = none := by rw [upd_ne nrx, upd_ne nrd] at hr; exact hr
  have k : ∀ a o, H a = some o → H' a = some o := fun a o ha => by
    rw [hk a (ne_of_none ha hx) (ne_of_none ha hr1)]
    exact k0 a o ha
  exact q (.ref x) G H' ⟨.refl _, k, fun a o z => k a o (e.gh a o z), fun _ _ => rfl⟩ ⟨x, dx, r, _, rfl, hx, e.gh.free hx, hr1, e.gh.free hr1, Ne.symm nrx, hx', hr', h5⟩
theorem ev_lstP {ta : TA} {as : List D} (h : EvA K ta ds as) (hl : Hyp (as.length ≤ 1000)) : EvS K (tLst ta) ds (.p (.lst as)) := (ev_lst h hl).pure
theorem sd_join {N N' : Env → Prop} {R : S → Prop} (h : SD K t ds N' R) (k : ∀ ds', N' ds' → SD K u ds' N R) : SD K (tSeq t u) ds N R := sd_seq (h.mono k fun _ z => z)
end
theorem Bt.sm {n : Nat} {i : Int} (h : i.natAbs < 2 ^ 20) (hn : 20 ≤ n) : Bt n i := Nat.lt_of_lt_of_le h (Nat.pow_le_pow_right (by decide) hn)
theorem gap_bt {l : List Hd} (h : HsOk l) : Bt 101 (gapF l : Int) := by
  by_cases hz : gapF l = 0
  · rw [hz]
    exact (by decide : (0 : Nat) < 2 ^ 101)
  · by_cases he : ∃ x ∈ l, x.1 - (l.getD 0 (0, 0)).1 ≠ 0
    · obtain ⟨x, hx, hne⟩ := he
      have h0 : l.getD 0 (0, 0) ∈ l := mem_getD (List.length_pos_of_mem hx)
      have hd := gap_dvd hx
      have hb : Bt 101 (x.1 - (l.getD 0 (0, 0)).1) := (h.all x hx).br.sub (h.all _ h0).br
      have : (gapF l : Int).natAbs ∣ (x.1 - (l.getD 0 (0, 0)).1).natAbs := Int.natAbs_dvd_natAbs.mpr hd
      exact Nat.lt_of_le_of_lt (Nat.le_of_dvd (by omega) this) hb
    · exfalso
      have hd : (0 : Int) ∣ (gapF l : Int) := gap_great fun x hx => by
        have : x.1 - (l.getD 0 (0, 0)).1 = 0 := Classical.byContradiction fun z => he ⟨x, hx, z⟩
        rw [this]
        exact Int.dvd_refl _
      have := Int.zero_dvd.mp hd
      omega
end HM

/-! LayE -/
namespace HM
open PySem L2
/-! ### what is raised -/
/-- a def's promise to raise an exception of the class C -/
def spX (K : PySem.W.Frag) (P : List D → Addr → Prop) : Sp := fun vs H _ E => ∃ G ds C, Ex G H ∧ Ats K G vs ds ∧ P ds C ∧ ∀ G' H', Gr G H G' H' → E (.ref C) none H'
/-- an expression that raises: Z of the slots and the heap then -/
def EvX (K : PySem.W.Frag) (te : TE) (ds : Env) (Z : L2.St → Hp → Prop) : Prop := ∀ (σ : L2.St) (H0 G H : Hp) (Q : VK), En K H0 G H σ ds → (∀ G' H', Gr G H G' H' → Z σ H') → te σ H Q
/-- a statement that raises, the slots then being M -/
def SDT (K : PySem.W.Frag) (t : TS) (ds : Env) (M : Env → Prop) (Z : L2.St → Hp → Prop) : Prop := ∀ (E : Ends) (σ : L2.St) (G0 H0 G H : Hp), Gr G0 H0 G H → En K H0 G H σ ds →
  (∀ σ' ds' G' H', Gr G0 H0 G' H' → En K H0 G' H' σ' ds' → M ds' → Z σ' H') → t E σ H
def wZ (W : WX) (C : Addr) : L2.St → Hp → Prop := fun σ H => W (.ref C) none σ H
section
variable {K : PySem.W.Frag} {ds : Env} {ta tb te tl : TE} {t u : TS} {c : TT} {d : D} {s : S} {M N : Env → Prop} {R : S → Prop} {Z : L2.St → Hp → Prop} {W : WX} {C : Addr}
theorem evx_call {P : List D → Addr → Prop} {ta : TA} {as : List D} (h : EvA K ta ds as) (hp : P as C) : EvX K (tCallS (spX K P) (WE W) ta) ds (wZ W C) := fun σ H0 G H Q e z =>
  h σ H0 G H _ e fun vs G1 H1 g1 hv => ⟨G1, as, C, g1.s, hv, hp, fun G2 H2 g2 => z G2 H2 (g1.trans g2)⟩
theorem evx_if {b : Bool} {tt : TT} (h : EvT K tt ds b) (h1 : b = true → EvX K ta ds Z) (h2 : b = false → EvX K tb ds Z) : EvX K (tIf tt ta tb) ds Z := fun σ H0 G H Q e z => h σ H0 G H _ e fun G1 H1 g1 => by
  cases b with
  | true => exact h1 rfl σ H0 G1 H1 Q (e.gr g1) fun G2 H2 g2 => z G2 H2 (g1.trans g2)
  | false => exact h2 rfl σ H0 G1 H1 Q (e.gr g1) fun G2 H2 g2 => z G2 H2 (g1.trans g2)
theorem sx_seqP (h : SD K t ds (fun ds' => SDT K u ds' M Z) (fun _ => False)) : SDT K (tSeq t u) ds M Z := fun E σ G0 H0 G H g e z =>
  h { E with nx := u E } σ G0 H0 G H g e (fun ds' σ' G' H' g' x' e' hu => hu E σ' G0 H0 G' H' g' e' z) (fun _ _ _ _ _ _ f => f.elim)
theorem sx_seqR (h : SDT K t ds M Z) : SDT K (tSeq t u) ds M Z := fun E σ G0 H0 G H g e z => h { E with nx := u E } σ G0 H0 G H g e z
theorem sx_if {b : Bool} (h : EvT K c ds b) (h1 : b = true → SDT K t ds M Z) (h2 : b = false → SDT K u ds M Z) : SDT K (tIfS c t u) ds M Z := fun E σ G0 H0 G H g e z =>
  h σ H0 G H _ e fun G1 H1 g1 => by
    cases b with
    | true => exact h1 rfl E σ G0 H0 G1 H1 (g.trans g1) (e.gr g1) z
    | false => exact h2 rfl E σ G0 H0 G1 H1 (g.trans g1) (e.gr g1) z
theorem sx_raise (hm : M ds) : SDT K (fun _ σ H => (fun _ H Q => Q (.ref C) none H : L2.St → Hp → XK → Prop) σ H fun cls d H' => W cls d σ H') ds M (wZ W C) := fun E σ G0 H0 G H g e z => z σ ds G H g e hm
theorem sx_drop (h : EvX K te ds Z) (hm : M ds) : SDT K (tDrop te) ds M Z := fun E σ G0 H0 G H g e z => h σ H0 G H _ e fun G1 H1 g1 => z σ ds G1 H1 (g.trans g1) (e.gr g1) hm
theorem sx_asg {gt : TG} (h : EvX K te ds Z) (hm : M ds) : SDT K (tAsg te gt) ds M Z := fun E σ G0 H0 G H g e z => h σ H0 G H _ e fun G1 H1 g1 => z σ ds G1 H1 (g.trans g1) (e.gr g1) hm
theorem sx_ret (h : EvX K te ds Z) (hm : M ds) : SDT K (tRet te) ds M Z := fun E σ G0 H0 G H g e z => h σ H0 G H _ e fun G1 H1 g1 => z σ ds G1 H1 (g.trans g1) (e.gr g1) hm
theorem SDT.mono {M' : Env → Prop} (h : SDT K t ds M Z) (hm : ∀ ds, M ds → M' ds) : SDT K t ds M' Z := fun E σ G0 H0 G H g e z => h E σ G0 H0 G H g e fun σ' ds' G' H' g' e' m => z σ' ds' G' H' g' e' (hm _ m)
def tTry (K : PySem.W.Frag) (cv : Value) (i : Nat) (tb : WX → TS) (ts : Addr → Value → Option Addr → TS) (Wout : WX) : TS := fun D σ H => tb (wAs K cv i ts Wout D) D σ H
/-- try: .. except c as n: .. , the body raising, the suite returning -/
theorem sd_try {tb : WX → TS} {ts : Addr → Value → Option Addr → TS} {Wout : WX} {cv : Value} {i : Nat} (hb : ∀ W, SDT K (tb W) ds M (wZ W C)) (hx : PySem.W.exmOne K (.ref C) cv = some true)
    (hs : ∀ a ds', M ds' → SD K (ts a (.ref C) none) (ds'.set i (some (.p (.val (.ref a))))) (fun _ => False) R) : SD K (tTry K cv i tb ts Wout) ds N R := fun E σ G0 H0 G H g e n r =>
  hb (wAs K cv i ts Wout E) E σ G0 H0 G H g e fun σ' ds' G' H' g' e' hM => ⟨true, hx, fun _ a ha => hs a ds' hM _ (σ'.set i (some (.ref a))) G0 H0 G' H' g' (e'.setP i (.val _)) (fun _ _ _ _ _ _ _ z => z.elim) r, fun z => nomatch z⟩
/-- isinstance(e, c), e the exception that the suite holds -/
def rIsG (K : PySem.W.Frag) (cls : Value) (d : Option Addr) (a : Addr) : List V → Hp → VK → Prop := fun xs H Q => ∃ (D : Addr) (c : V) (cv : Value) (b : Bool), cls = .ref D ∧ d = none ∧ ExcC K D ∧ xs = [.ref a, c] ∧ (∀ u, RelV c u → u = cv) ∧ PySem.W.kitOne K (.ref D) cv = some b ∧ Q (.bl b) H
theorem ev_isE {ta : TA} {a C' : Addr} {b : Bool} (h : EvA K ta ds [.val (.ref a), .val (.ref C')]) (x : ExcC K C) (hk : PySem.W.kitOne K (.ref C) (.ref C') = some b) : EvS K (tCB (rIsG K (.ref C) none a) ta) ds (.p (B b)) := ev_cb h fun G H vs Q e hv q => by
  cases hv with
  | cons h1 t => cases t with
    | cons h2 t => cases t; cases h1; cases h2; exact ⟨C, _, .ref C', b, rfl, rfl, x, rfl, fun u r => r, hk, q _ G H (.refl e) (.val _)⟩
theorem ev_isEt {ta : TA} {a : Addr} {T : String} {b : Bool} (h : EvA K ta ds [.val (.ref a), .val (.ty T)]) (x : ExcC K C) (hk : PySem.W.kitOne K (.ref C) (.type T) = some b) : EvS K (tCB (rIsG K (.ref C) none a) ta) ds (.p (B b)) := ev_cb h fun G H vs Q e hv q => by
  cases hv with
  | cons h1 t => cases t with
    | cons h2 t => cases t; cases h1; cases h2; exact ⟨C, _, .type T, b, rfl, rfl, x, rfl, fun u r => r, hk, q _ G H (.refl e) (.val _)⟩
end
section
variable {X : Cx} {e : Expr} {es : List Expr} {t : TA} {p pos : Pos} {K : PySem.W.Frag}
theorem call_isG {a : Addr} {cls : Value} {d : Option Addr} {oe : Obj} {pn : List (Addr × Obj)} (hz : L2N.Zn cls d oe) (hf : ∃ vs, oe.data = .fields vs) (hK : X.K = K := by rfl) : CallR (X.suite a ((a, oe) :: pn)) (.builtin "isinstance") (rIsG K cls d a) := by
  subst hK
  intro pins s σ H xs us Q I r h
  obtain ⟨D, c, cv, b, rfl, rfl, C, rfl, h1, h2, q⟩ := h
  exact call_isE C hz.zc hf pins s σ H _ us Q I r ⟨c, cv, b, rfl, h1, h2, q⟩
theorem pTry {x n : Str} {c : Value} {i : Nat} {body suite : List Stmt} {b₀ : Stmt} {np pos pos' : Pos} {tb : WX → TS} {ts : Addr → Value → Option Addr → TS} {Wout : WX} (hs : X.stack = X.env :: X.outer) (hf : X.env.frame = some X.env.locals) (hN : X.N.Nodup) (hi : X.N[i]? = some n) (hln : X.env.kindOf n = some .local) (hc : Names X x c) (tk : L2N.Takes X Wout)
    (hb : ∀ (W : WX) (pn : List (Addr × Obj)) (xe : Value → Shared → Prop), L2N.Takes (X.tr pn xe) W → PassesOwn (model X.prog X.w) X.A X.env xe → PSs (X.tr pn xe) body (tb W))
    (hsu : ∀ (a : Addr) (oe : Obj) (cls : Value) (d : Option Addr) (pn : List (Addr × Obj)), L2N.Zn cls d oe → (∃ vs, oe.data = .fields vs) → PSs (X.suite a ((a, oe) :: pn)) (b₀ :: suite) (ts a cls d)) (hK : X.K = K := by rfl) :
    PS X (.Try body [.ExceptHandler (some (.Name x np)) (some n) (b₀ :: suite) pos'] [] [] pos) (tTry K c i tb ts Wout) := hK ▸ L2N.ps_try_as hs hf hN hi hln hc tk hb hsu
theorem takesN {X : Cx} : L2N.Takes X (fun _ _ _ _ => False) := fun _ _ x => by
  obtain ⟨_, _, _, _, _, _, _, _, _, _, _, _, _, _, _, _, z⟩ := x
  exact z.elim
def CalleeX (P : Program) (w : World) (K : PySem.W.Frag) (mg : Str → Option Value) (base : Heap) (name : Str) (k : Nat) (ps : List Str) (sp : Sp) : Prop :=
  ∃ (f : Addr) (fd : FuncData), FnOk P w K mg base (L2N.CX P w) k f fd ps sp ∧ mg name = some (.ref f) ∧ PySem.W.keepIn K (.ref f) = true ∧ Binds K fd ps []
theorem pe_fnS {name : Str} {k : Nat} {ps : List Str} {sp : Sp} {W : WX} (C : CalleeX X.prog X.w X.K X.mg X.base name k ps sp) (tk : L2N.Takes X W) (hr : Room k X.A) (hg : Gl X name) (ha : PA X (e :: es) t) (hdb : (name == ("__debug__" : Str)) = false := by decide)
    (he : starEach (e :: es) X.env = (false, eval e X.env) :: starEach es X.env := by rfl) (hpl : (backTo pos (starEach es X.env)).any (·.1) = false := by rfl) :
    PE X (.Call (.Name name p) (e :: es) [] pos) (tCallS sp (WE W) t) := by
  obtain ⟨f, fd, F, hm, hk, hb⟩ := C
  exact pe_callS F hr hg hm hk hb (fun σ => L2N.passAt tk σ) ha hdb he hpl
theorem PS.nox {st : Stmt} {t : TS} (h : PS X.nox st t) : PS X st t := ⟨fun pins s σ H D I hw =>
  wpAny_mono (h.run pins s σ H D (I.wish _) hw) (fun _ _ q => SP.unwish q) fun _ _ z => False.elim z⟩
end
section
variable {P : Program} {w : World} {K : PySem.W.Frag} {mg : Str → Option Value} {base : Heap}
theorem callee_mkX {name : Str} {st : Stmt} {N ps : List Str} {k : Nat} {Pr : List D → Addr → Prop} (F : FunAt K mg name st) (sc : FnScope N ps (defScope st))
    (hb : ∀ (kV doc pm : Value) (an : Option Addr) (cdv ct : Value) (us : List Value), us.length = ps.length → bindArgs (PySem.W.fnOf name name (defArgs st) (defBody st) (defScope st) .none kV doc pm an cdv ct) ⟨us, []⟩ = pure (ps.zip us))
    (len : ∀ as C, Pr as C → as.length = ps.length)
    (body : ∀ (f : Addr) (cdv : Value) (A : Around) (outer : List PySem.Env) (s : Shared) (H : Hp) (E : XK) (as : List D) (C : Addr), Room k (A.deeper (PyProof.Rows.envOfC name (defScope st) s.heap.objs.size f cdv)) → Pr as C →
      ∃ t, PSs (cxOf (L2N.CX P w) P w K mg base N name (defScope st) f cdv A outer s H E) (defBody st) t ∧ SDT K t (as.map (fun d => some (S.p d)) ++ List.replicate (N.length - as.length) none) (fun _ => True) (wZ (fun cls d _ H => E cls d H) C)) :
    CalleeX P w K mg base name (k + 1) ps (spX K Pr) := by
  obtain ⟨f, fd, F, hm⟩ := F
  refine ⟨f, fd, ?_, hm, F.kp, F.binds hb⟩
  obtain ⟨oc, od, kV, doc, pm, an, cdv, ct, osl, rfl, lk, hcd⟩ := F.ex
  refine fn_of lk hcd sc (fun vs H Q E h => ?_) fun A outer s H vs Q E hr h => ?_
  · obtain ⟨G, ds, C, _, ha, hp, _⟩ := h
    rw [ha.len]
    exact len _ _ hp
  · obtain ⟨G, ds, C, hg, ha, hp, q⟩ := h
    obtain ⟨t, h1, h2⟩ := body f cdv A outer s H E ds C hr hp
    refine ⟨t, h1, h2 _ _ G H G H (.refl hg) ⟨.refl _, hg, ?_, fun i s' hi => ?_, fun i j xs ys hi hj => ?_⟩ fun σ' ds' G' H' g' _ _ => q G' H' g'⟩
    · show _ = (vs.map some ++ List.replicate (N.length - vs.length) none).length
      rw [List.length_append, List.length_append, List.length_map, List.length_map, List.length_replicate, List.length_replicate, ha.len]
    · show ∃ v, (vs.map some ++ List.replicate (N.length - vs.length) none)[i]? = some (some v) ∧ _
      by_cases hl : i < ds.length
      · rw [List.getElem?_append_left (by rw [List.length_map]; exact hl), List.getElem?_map] at hi
        cases q' : ds[i]? with
        | none => rw [q'] at hi; cases hi
        | some d =>
          rw [q'] at hi
          cases hi
          obtain ⟨v, h1, h2⟩ := ha.get q'
          refine ⟨v, ?_, h2⟩
          rw [List.getElem?_append_left (by rw [List.length_map, ha.len]; exact hl), List.getElem?_map, h1]
          rfl
      · rw [List.getElem?_append_right (by rw [List.length_map]; omega), List.getElem?_replicate] at hi
        split at hi <;> cases hi
    · by_cases hl : i < ds.length
      · rw [List.getElem?_append_left (by rw [List.length_map]; exact hl), List.getElem?_map] at hi
        cases q' : ds[i]? with
        | none => rw [q'] at hi; cases hi
        | some d => rw [q'] at hi; cases hi
      · rw [List.getElem?_append_right (by rw [List.length_map]; omega), List.getElem?_replicate] at hi
        split at hi <;> cases hi
/-- an exception class of the text, over ValueError -/
structure ExcT (K : PySem.W.Frag) (mg : Str → Option Value) (name : Str) (C : Addr) : Prop where
  m : mg name = some (.ref C)
  ex : PySem.W.excIn K C [.type "ValueError", .type "Exception", .type "BaseException", .type "object"] "ValueError.__new__" = true
  kp : PySem.W.keepIn K (.ref C) = true
  ty : PySem.W.typeIn K (.ref C) = some (.type "type")
  xc : ExcC K C
theorem ExcT.rs {X : Cx} {name : Str} {C : Addr} (T : ExcT X.K X.mg name C) : Raises X (.ref C) := raises_own T.xc.hs T.ty
theorem pRaise {X : Cx} {W : WX} {x m : Str} {j : Nat} {C : Addr} {p p2 pos pos' : Pos} (T : ExcT X.K X.mg x C) (hc : X.calm = true) (tk : L2N.Takes X W) (hg : Gl X x) (hdb : (x == ("__debug__" : Str)) = false := by decide) :
    PS X (.Raise (some (.Call (.Name x p) [.Constant (.str m) j p2] [] pos)) none pos') (fun _ σ H => (fun _ H Q => Q (.ref C) none H : L2.St → Hp → XK → Prop) σ H fun cls d H' => W cls d σ H') :=
  L2N.ps_raise hc tk (L2N.pmk_own PySem.F.excBase_ValueError T.ex T.m T.kp T.rs hg hdb)
end
end HM

/-! LayF -/
namespace HM
open PySem PySem.Spec PyProof.Rows L2
/-! ### any(a list of bools) while an exception is handled -/
section
variable {prog : Program} {w : World} {A : Around} {E : Value → Shared → Prop} {s : Shared}
theorem listEndHot {it l x1 : Addr} {i : Nat} {items : Array Value} {Q : Option Value → Shared → Prop} (hot : HotX.HotAt A x1 s.heap) (ne : x1 ≠ it) (hit : s.heap.IsListIter it l i) (hl : s.heap.IsList l items) (hx : items[i]? = none)
    (hQ : ∀ h', (∀ b o, b ≠ it → s.heap.get? b = some o → h'.get? b = some o) → Q none { s with heap := h' }) : wpAny (model prog w) A (pyNext (.ref it)) Q E s := by
  obtain ⟨o, ho, hc, hd⟩ := id hit
  obtain ⟨ol, hol, _, nl, hdl⟩ := hl
  obtain ⟨hh, o1, vs1, h1, d1, c1⟩ := hot
  unfold pyNext
  refine wpAny_bind (wpAny_attempt (wpAny_callSpecial?_slot (name := Str.ofString "__next__") hit.typeIs slot_listiter_next (wpAny_call_entry slot_listiter_next hit.typeIs entry_listiter_next ?_ (args_listiter_next _))))
  show wpAny _ _ (field (.ref it) 0 >>= _) _ _ s
  refine wpAny_bind (wpAny_field ho hd (x := .ref l) rfl ?_)
  show wpAny _ _ (if (Value.ref l == Value.none) = true then _ else _) _ _ s
  rw [if_neg (show ¬ ((Value.ref l == Value.none) = true) from Bool.false_ne_true)]
  show wpAny _ _ (field (.ref it) 1 >>= _) _ _ s
  refine wpAny_bind (wpAny_field ho hd (x := .int i 0) rfl ?_)
  show wpAny _ _ (seqItems? (.ref l) >>= _) _ _ s
  refine wpAny_bind (wpAny_seqItems hol hdl ?_)
  simp only [Int.toNat_natCast, hx]
  refine wpAny_bind (wpAny_rule (wpAny_bind (wpAny_setField ho hd (by simp) ?_)))
  show wpAny _ _ (newExc (.type "StopIteration") [] >>= _) _ _ _
  refine wpAny_bind ?_
  simp only [newExc, newTuple]
  refine wpAny_bind (wpAny_newObj_type ?_ (by size_fits))
  refine wpAny_bind (m := firstArgMember _ _) (wpAny_of_eq (a := Value.none) (by first | rfl | (simp only [firstArgMember]; rfl)) ?_)
  refine wpAny_newObj_type ?_ (by size_fits)
  have sb := (Heap.SameBut.update (h := s.heap) (a := it) (f := Obj.mapFields (·.setIfInBounds 0 .none))).extBut
  have g1 := sb x1 o1 ne h1
  refine HotX.raiseNew_hot ⟨hh, o1, vs1, Heap.get?_push_of_some _ (Heap.get?_push_of_some _ g1), d1, c1⟩ (Nat.ne_of_lt (Heap.lt_size (Heap.get?_push_of_some _ g1))) (Heap.get?_push_size _ rfl) rfl (by first | (simp; done) | (simp; omega) | (simp only [Array.size_append]; simp; omega)) ?_
  refine wpAny_bind (wpAny_isInstance (T := "StopIteration") (b := true) ⟨_, Heap.get?_update_self _ (Heap.get?_push_size _ rfl) rfl, rfl⟩ isSubtype_stop ?_)
  refine wpAny_pure (hQ _ fun b o hb e => ?_)
  have g := sb b o hb e
  rw [Heap.get?_update_other _ _ (Nat.ne_of_gt (Heap.lt_size (Heap.get?_push_of_some _ g)))]
  exact Heap.get?_push_of_some _ (Heap.get?_push_of_some _ g)
theorem walksHot {x1 : Addr} {o1 : Obj} {vs1 : Array Value} (hh : A.handled = some (.ref x1)) (d1 : o1.data = .fields vs1) (c1 : vs1[2]? = some .none) (I ax : Addr) (hne : ax ≠ I) (ne : x1 ≠ I) (items : Array Value) :
    Walks prog w A I [I, ax, x1] [I] items.size (fun i v => items[i]? = some v) (fun i h => (h.IsListIter I ax i ∧ h.IsList ax items) ∧ h.get? x1 = some o1) where
  sub := fun b hb => by simp at hb; simp [hb]
  frame := fun _ _ _ st hk => ⟨⟨st.1.1.at fun o e => hk I (by simp) o e, st.1.2.at fun o e => hk ax (by simp) o e⟩, hk x1 (by simp) _ st.2⟩
  item := fun i s Q E hi st hQ => by
    refine wpAny_pyNext_list_item st.1.1 st.1.2 (x := items[i]) (by simp [hi]) fun h' hit' hs' => ?_
    exact hQ _ h' s.toks (by simp [hi]) ⟨⟨hit', st.1.2.extBut hs'.extBut hne⟩, hs'.extBut _ _ ne st.2⟩ fun b o hb e => hs'.extBut b o (fun h => hb (by simp [h])) e
  done := fun s Q E st hQ => listEndHot ⟨hh, o1, vs1, st.2, d1, c1⟩ ne st.1.1 st.1.2 (by simp) fun h' he' => hQ h' s.toks fun b o hb e => he' b o (fun h => hb (by simp [h])) e
  self := fun _ _ _ _ st hQ => wpAny_pyIter_listiter st.1.1 hQ
end
theorem kAnyH {X : Cx} {K : PySem.W.Frag} (hc : L2H.HotC X) (hK : X.K = K := by rfl) : CallR X (.builtin "any") (rAny K) := by
  subst hK
  intro pins s σ H vs us Q I r h
  obtain ⟨a, bs, rfl, hs, q⟩ := h
  obtain ⟨its, rv, hl, _⟩ := I.list hs
  rw [Vals.ref1 r]
  have hb := rv.bls
  obtain ⟨x1, hh, o1, vs1, g1, d1, c1⟩ := hc.at I
  refine call_any_walk (iter_any hl.isList fun s₂ e2 st hne => ?_)
  subst e2
  refine ⟨_, _, _, _, _, _, _, rfl, walksHot (A := X.A.in1) hh d1 c1 _ a hne (Nat.ne_of_lt (Heap.lt_size g1)) its.toArray, ⟨st, Heap.get?_push_of_some _ g1⟩, truth_bools hb, fun h' tk hk => ?_⟩
  refine ⟨.bl _, H, I.kept fun b o eo => hk b o (fun hmem => ?_) (Heap.get?_push_of_some _ eo), ?_, q⟩
  · rcases List.mem_cons.mp hmem with e1 | hmem
    · exact absurd (e1 ▸ Heap.lt_size eo) (Nat.lt_irrefl _)
    · cases hmem
  · show Value.bool _ = Value.bool _
    rw [← L2.any_range, hb, List.size_toArray, List.length_map]
theorem hotSuite {X : Cx} {a : Addr} {oe : Obj} {cls : Value} {d : Option Addr} {pn : List (Addr × Obj)} (hz : L2N.Zn cls d oe) (hf : ∃ vs, oe.data = .fields vs) : L2H.HotC (X.suite a ((a, oe) :: pn)) := by
  obtain ⟨vs, e⟩ := hf
  exact ⟨(a, oe), ⟨rfl, vs, e, hz.2.2 vs e⟩, List.mem_cons_self⟩
end HM

/-! MthA -/
namespace HM
/-! ### groups by the place -/
def isFst (f : Nat → Rat) (i : Nat) : Bool := (List.range i).all fun j => !decide (f j = f i)
def grF (f : Nat → Rat) (n : Nat) : List (Rat × List Nat) := ((List.range n).filter (isFst f)).map fun i => (f i, (List.range n).filter fun j => decide (f j = f i))
theorem isFst_iff {f : Nat → Rat} {i : Nat} : isFst f i = true ↔ ∀ j, j < i → f j ≠ f i := by
  unfold isFst
  rw [List.all_eq_true]
  constructor
  · intro h j hj
    have := h j (List.mem_range.mpr hj)
    simpa using this
  · intro h j hj
    simpa using h j (List.mem_range.mp hj)
theorem first_ex {f : Nat → Rat} {p : Rat} : ∀ {n : Nat}, (∃ j, j < n ∧ f j = p) → ∃ i, i < n ∧ f i = p ∧ ∀ j, j < i → f j ≠ p
  | 0, ⟨j, h, _⟩ => absurd h (Nat.not_lt_zero _)
  | n + 1, ⟨j, h, e⟩ => by
    by_cases hx : ∃ j, j < n ∧ f j = p
    · obtain ⟨i, h1, h2, h3⟩ := first_ex hx
      exact ⟨i, by omega, h2, h3⟩
    · refine ⟨n, by omega, ?_, fun j hj z => hx ⟨j, hj, z⟩⟩
      have : j = n := by
        rcases Nat.lt_or_ge j n with z | z
        · exact absurd ⟨j, z, e⟩ hx
        · omega
      rw [← this]
      exact e
theorem gr_mem {f : Nat → Rat} {n : Nat} {e : Rat × List Nat} (h : e ∈ grF f n) : ∃ i, i < n ∧ e.1 = f i := by
  unfold grF at h
  obtain ⟨i, hi, rfl⟩ := List.mem_map.mp h
  exact ⟨i, List.mem_range.mp (List.mem_filter.mp hi).1, rfl⟩
theorem filt_step {f : Nat → Rat} {n : Nat} {p : Rat} : (List.range (n + 1)).filter (fun j => decide (f j = p)) = (List.range n).filter (fun j => decide (f j = p)) ++ (if f n = p then [n] else []) := by
  rw [List.range_succ, List.filter_append, List.filter_cons]
  by_cases h : f n = p <;> simp [h]
theorem gr_new {f : Nat → Rat} {n : Nat} (h : ∀ j, j < n → f j ≠ f n) : grF f (n + 1) = grF f n ++ [(f n, [n])] ∧ ∀ e ∈ grF f n, e.1 ≠ f n := by
  refine ⟨?_, fun e he z => ?_⟩
  · unfold grF
    rw [List.range_succ (n := n), List.filter_append, List.map_append]
    have e1 : (List.filter (isFst f) [n]) = [n] := by
      rw [List.filter_cons, if_pos (isFst_iff.mpr h)]
      rfl
    rw [e1]
    congr 1
    · refine List.map_congr_left fun i hi => ?_
      have hin := List.mem_range.mp (List.mem_filter.mp hi).1
      rw [← List.range_succ, filt_step, if_neg (fun z => h i hin z.symm), List.append_nil]
    · rw [List.map_cons, List.map_nil, ← List.range_succ, filt_step, if_pos rfl]
      have : (List.range n).filter (fun j => decide (f j = f n)) = [] := by
        rw [List.filter_eq_nil_iff]
        intro j hj
        simpa using h j (List.mem_range.mp hj)
      rw [this]
      rfl
  · obtain ⟨i, h1, h2⟩ := gr_mem he
    exact h i h1 (h2.symm.trans z)
theorem gr_old {f : Nat → Rat} {n : Nat} (h : ∃ j, j < n ∧ f j = f n) : ∃ pre xs post, grF f n = pre ++ (f n, xs) :: post ∧ (∀ e ∈ pre, e.1 ≠ f n) ∧ grF f (n + 1) = pre ++ (f n, xs ++ [n]) :: post ∧ xs.length ≤ n := by
  obtain ⟨i, h1, h2, h3⟩ := first_ex h
  have hi : i ∈ (List.range n).filter (isFst f) := List.mem_filter.mpr ⟨List.mem_range.mpr h1, isFst_iff.mpr fun j hj => by rw [h2]; exact h3 j hj⟩
  obtain ⟨A, B, hab⟩ := List.append_of_mem hi
  have nd : ((List.range n).filter (isFst f)).Nodup := List.Pairwise.filter _ List.nodup_range
  rw [hab] at nd
  have nd2 := List.nodup_append.mp nd
  have nd3 := List.nodup_cons.mp nd2.2.1
  have uniq : ∀ k ∈ (List.range n).filter (isFst f), f k = f n → k = i := fun k hk e => by
    have hk2 := isFst_iff.mp (List.mem_filter.mp hk).2
    rcases Nat.lt_trichotomy k i with z | z | z
    · exact absurd e (h3 k z)
    · exact z
    · exact absurd (h2.trans e.symm) (hk2 i z)
  have hA : ∀ k ∈ A, f k ≠ f n := fun k hk e => by
    have := uniq k (by rw [hab]; exact List.mem_append_left _ hk) e
    exact nd2.2.2 k hk i List.mem_cons_self this
  have hB : ∀ k ∈ B, f k ≠ f n := fun k hk e => by
    have := uniq k (by rw [hab]; exact List.mem_append_right _ (List.mem_cons_of_mem _ hk)) e
    exact nd3.1 (this ▸ hk)
  have nf : isFst f n = false := by
    cases q : isFst f n with
    | false => rfl
    | true => obtain ⟨j, hj, e⟩ := h; exact absurd e (isFst_iff.mp q j hj)
  have e1 : (List.range (n + 1)).filter (isFst f) = A ++ i :: B := by
    rw [List.range_succ, List.filter_append, hab, List.filter_cons, nf, if_neg (by decide)]
    simp
  refine ⟨A.map fun k => (f k, (List.range n).filter fun j => decide (f j = f k)), (List.range n).filter fun j => decide (f j = f n), B.map fun k => (f k, (List.range n).filter fun j => decide (f j = f k)), ?_, ?_, ?_, ?_⟩
  · unfold grF
    rw [hab, List.map_append, List.map_cons, h2]
  · intro e he
    obtain ⟨k, hk, rfl⟩ := List.mem_map.mp he
    exact hA k hk
  · unfold grF
    rw [e1, List.map_append, List.map_cons, h2, filt_step, if_pos rfl]
    congr 1
    · refine List.map_congr_left fun k hk => ?_
      rw [filt_step, if_neg fun z => hA k hk z.symm, List.append_nil]
    · congr 1
      refine List.map_congr_left fun k hk => ?_
      rw [filt_step, if_neg fun z => hB k hk z.symm, List.append_nil]
  · have := List.length_filter_le (fun j => decide (f j = f n)) (List.range n)
    rw [List.length_range] at this
    exact this
theorem gr_any {f : Nat → Rat} {n : Nat} : (grF f n).any (fun e => decide (e.1 = f n)) = true ↔ ∃ j, j < n ∧ f j = f n := by
  constructor
  · intro h
    obtain ⟨e, he, h2⟩ := List.any_eq_true.mp h
    obtain ⟨i, h3, h4⟩ := gr_mem he
    exact ⟨i, h3, h4.symm.trans (of_decide_eq_true h2)⟩
  · intro h
    obtain ⟨pre, xs, post, h1, _⟩ := gr_old h
    rw [h1]
    exact List.any_eq_true.mpr ⟨_, List.mem_append_right _ List.mem_cons_self, decide_eq_true rfl⟩
theorem gr_len {f : Nat → Rat} {n : Nat} : (grF f n).length ≤ n := by
  unfold grF
  rw [List.length_map]
  have := List.length_filter_le (isFst f) (List.range n)
  rw [List.length_range] at this
  exact this
end HM

/-! LayG -/
namespace HM
open PySem PySem.Spec PyProof.Rows L2
/-! ### list(d.values()), the keys tuples -/
def tListVals (te : TE) : TE := fun σ H Q => te σ H fun x H1 => ∃ d kvs, x = .ref d ∧ H1 d = some (.dT kvs) ∧ ∀ p, H1 p = none → Q (.ref p) (upd H1 p (.lst (kvs.map Prod.snd)))
section
variable {X : Cx} {e : Expr} {te : TE} {p apos cpos pos : Pos}
theorem kt_vals {H : Hp} : ∀ {kvs : List (List Key × V)} {xs : List (List Key × Addr × Value)}, KT H kvs xs → Vals (kvs.map Prod.snd) (xs.map fun x => x.2.2)
  | _, _, .nil => .nil
  | _, _, .cons h t => .cons h.2.2 (kt_vals t)
theorem pe_listVals (hc : X.calm = true) (he : PE X e te) (hg : Gl X "list") (hm : X.mg "list" = none) (hv : bootBuiltins "list" = some (.type "list")) (hbase : attributeBase e "values" X.env (eval e X.env) = eval e X.env := by rfl) (hline : (apos.endLine == cpos.line) = true := by rfl)
    (hs : starEach [.Call (.Attribute e "values" apos) [] [] cpos] X.env = (false, eval (.Call (.Attribute e "values" apos) [] [] cpos) X.env) :: starEach [] X.env := by rfl) :
    PE X (.Call (.Name "list" p) [.Call (.Attribute e "values" apos) [] [] cpos] [] pos) (tListVals te) := by
  refine ⟨fun pins s σ H Q I hq => ?_⟩
  refine wpAny_Call_Name_kw (ld_blt I hg hm hv ?_)
  refine PyProof.Rows.callWith_type1 ?_ hs rfl
  rw [hs]
  show wpAny _ _ (spliced ((false, eval (.Call (.Attribute e "values" apos) [] [] cpos) X.env) :: backTo pos (starEach [] X.env))) _ _ s
  refine Calls.spliced_cons ?_
  refine wpAny_Call_method (T := "dict") (id := "dict.values") hbase rfl hline F.plainAttrs_dict F.slot_dict_values F.type_dict_values (thn (he.run pins s σ H _ I hq) fun u s1 ⟨x, H1, I1, rx, d, kvs, ex, hd, q⟩ => ?_)
  subst ex
  obtain rfl : u = Value.ref d := rx
  obtain ⟨hz, hs0, ks, pr, o, es, ep, ho, hx, hdt, hen, hn⟩ := (show ObjOk X.prog X.w H1 s1.heap d (.dT kvs) from I1.hok d _ hd)
  have l1 : es.size = ks.length := size_of_entries hen
  have l2 : kvs.length = ks.length := Paired.length pr
  have raw : s1.heap.DictRaw d es ep := ⟨o, ho, hx, hdt⟩
  have I2 : Inv X pins σ H1 { s1 with heap := s1.heap.push { cls := .type "dict_values", data := .fields #[.ref d] } } := I1.kept (t' := s1.toks) fun b ob q => Heap.get?_push_of_some _ q
  refine ⟨raw.typeIs, fun a ea => by cases ea; exact ⟨o, ho, hx.2.1⟩, ?_⟩
  show wpAny _ _ (callWith cpos (.builtin "dict.values") [.ref d] [] []) _ X.xe s1
  refine method_meetsIn F.slot_dict_values F.entry_dict_values rfl (PySem.evalArgs_none ⟨rfl, raw.typeIs, F.args_dict_values_1 _, _, meets_dict_values_raw d hs0, ⟨es, ep, raw⟩, ?_⟩)
  refine Calls.spliced_nil ?_
  refine PySem.W.kdl_call (PySem.KdlSrc.rawValues (es := es) (ep := ep)) (I1.ok.hd hc) ⟨⟨_, Heap.get?_push_size _ rfl, rfl, rfl⟩, raw.at fun o' e' => Heap.get?_push_of_some _ e'⟩ (by omega) fun h' tk acc' c' kp e it => ?_
  have ea : acc'.toList = ks.map fun x => x.2.2 := by
    have hl : acc'.toList.length = ks.length := by rw [Array.length_toList, it.1]; exact l1
    apply List.ext_getElem?
    intro j
    rw [List.getElem?_map]
    cases hj : acc'.toList[j]? with
    | none =>
      have h1 := List.getElem?_eq_none_iff.mp hj
      rw [List.getElem?_eq_none (by omega)]
      all_goals rfl
    | some v =>
      obtain ⟨hi, hv⟩ := it.2 j v (by rw [← Array.getElem?_toList]; exact hj)
      have qe := entry_at hen j
      rw [Array.getElem?_eq_getElem hi] at qe
      cases hb : ks[j]? with
      | none =>
        rw [hb] at qe
        exact nomatch (show some es[j] = none from qe)
      | some b =>
        rw [hb] at qe
        have e2 : es[j] = entryOfKey (tupleKind (mixKind X.prog X.w)) b := Option.some.inj qe
        rw [hv, e2]
        all_goals rfl
  have rv : Vals (kvs.map Prod.snd) acc'.toList := by rw [ea]; exact kt_vals pr
  refine ⟨.ref _, _, I2.laid (t' := tk) (o := .lst (kvs.map Prod.snd)) kp (Nat.le_refl _) ?_, rfl, q _ (I2.hok.fresh (Nat.le_refl _))⟩
  exact ⟨by rw [List.length_map]; exact hz, acc'.toList, c', rv, by rw [Array.toArray_toList]; exact e⟩
end
/-! ### dicts of lists of their own -/
theorem OwnL.split {K : PySem.W.Frag} {H0 G H : Hp} {x : List D} {l2 : List (List D)} : ∀ {l1 : List (List D)} {bs : List Addr}, OwnL K H0 G H bs (l1 ++ x :: l2) → ∃ b1 b b2 vs, bs = b1 ++ b :: b2 ∧ OwnL K H0 G H b1 l1 ∧ H0 b = none ∧ G b = none ∧ H b = some (.lst vs) ∧ Ats K G vs x ∧ OwnL K H0 G H b2 l2
  | [], _, .cons h1 h2 h3 h4 t => ⟨[], _, _, _, rfl, .nil, h1, h2, h3, h4, t⟩
  | _ :: l1, _, .cons h1 h2 h3 h4 t => by
    obtain ⟨b1, b, b2, vs, rfl, k1, k2, k3, k4, k5, k6⟩ := OwnL.split (l1 := l1) t
    exact ⟨_ :: b1, b, b2, vs, rfl, .cons h1 h2 h3 h4 k1, k2, k3, k4, k5, k6⟩
theorem OwnL.join {K : PySem.W.Frag} {H0 G H : Hp} {b2 : List Addr} {l2 : List (List D)} (t : OwnL K H0 G H b2 l2) : ∀ {b1 : List Addr} {l1 : List (List D)}, OwnL K H0 G H b1 l1 → OwnL K H0 G H (b1 ++ b2) (l1 ++ l2)
  | _, _, .nil => t
  | _, _, .cons h1 h2 h3 h4 r => .cons h1 h2 h3 h4 (OwnL.join t r)
theorem OwnL.monoG {K : PySem.W.Frag} {H0 G G' H : Hp} (x : Ex G G') : ∀ {bs : List Addr} {xss : List (List D)}, (∀ b ∈ bs, G' b = none) → OwnL K H0 G H bs xss → OwnL K H0 G' H bs xss
  | _, _, _, .nil => .nil
  | _, _, k, .cons h1 h2 h3 h4 t => .cons h1 (k _ List.mem_cons_self) h3 (h4.mono x) (OwnL.monoG x (fun b hb => k b (List.mem_cons_of_mem _ hb)) t)
theorem rawK_app {k1 k2 : List (List Int × List D)} {b1 b2 : List Addr} (h : k1.length = b1.length) : rawK (k1 ++ k2) (b1 ++ b2) = rawK k1 b1 ++ rawK k2 b2 := by
  unfold rawK
  rw [List.zip_append h, List.map_append]
theorem rawK_snd : ∀ {kvs : List (List Int × List D)} {bs : List Addr}, kvs.length = bs.length → (rawK kvs bs).map Prod.snd = bs.map V.ref
  | [], [], _ => rfl
  | k :: kvs, b :: bs, h => by
    have := rawK_snd (kvs := kvs) (bs := bs) (by simpa using h)
    unfold rawK at this ⊢
    rw [List.zip_cons_cons, List.map_cons, List.map_cons, this, List.map_cons]
  | [], _ :: _, h => by cases h
  | _ :: _, [], h => by cases h
theorem inl_inj {a b : List Int} (h : a.map (Sum.inl : Int → Key) = b.map Sum.inl) : a = b := (List.map_inj_right fun _ _ z => Sum.inl.inj z).mp h
theorem rawK_none {k : List Int} : ∀ {kvs : List (List Int × List D)} {bs : List Addr} {r : List (List Key × V)}, (∀ x ∈ kvs, x.1 ≠ k) → kvs.length = bs.length → valV (rawK kvs bs ++ r) (k.map Sum.inl) = valV r (k.map Sum.inl)
  | [], [], _, _, _ => rfl
  | x :: kvs, b :: bs, r, h, hl => by
    have := rawK_none (k := k) (kvs := kvs) (bs := bs) (r := r) (fun y hy => h y (List.mem_cons_of_mem _ hy)) (by simpa using hl)
    unfold rawK at this ⊢
    rw [List.zip_cons_cons, List.map_cons, List.cons_append, valV_neg (fun z => h x List.mem_cons_self (inl_inj z)), this]
  | [], _ :: _, _, _, h => by cases h
  | _ :: _, [], _, _, h => by cases h
theorem rawK_any {k : List Int} : ∀ {kvs : List (List Int × List D)} {bs : List Addr}, kvs.length = bs.length → (valV (rawK kvs bs) (k.map Sum.inl)).isSome = kvs.any fun x => decide (x.1 = k)
  | [], [], _ => rfl
  | x :: kvs, b :: bs, hl => by
    have ih := rawK_any (k := k) (kvs := kvs) (bs := bs) (by simpa using hl)
    unfold rawK at ih ⊢
    rw [List.zip_cons_cons, List.map_cons, List.any_cons]
    by_cases hx : x.1 = k
    · rw [valV_pos (by rw [hx]), decide_eq_true hx]
      rfl
    · rw [valV_neg (fun z => hx (inl_inj z)), decide_eq_false hx, Bool.false_or]
      exact ih
  | [], _ :: _, h => by cases h
  | _ :: _, [], h => by cases h
theorem kV_map (k : List Int) : (k.map (Sum.inl : Int → Key)).map kV = k.map V.int := by rw [List.map_map]; rfl
section
variable {K : PySem.W.Frag} {ds : Env} {ta tb te tl td ty : TE} {t u : TS} {c : TT} {d : D} {s : S} {N : Env → Prop} {R : S → Prop}
theorem ev_dnew : EvS K tDNewT ds (.g []) := fun σ H0 G H Q e q => fun p hp => q _ G _ (.own e.gh hp) ⟨p, [], rfl, hp, e.gh.free hp, upd_same, .nil, by simp⟩
theorem tup_ints {G H : Hp} {v : V} {k : List Int} (e : Ex G H) (h : At K G v (.tup (k.map I))) : ∃ b, v = .ref b ∧ H b = some (.tup ((k.map (Sum.inl : Int → Key)).map kV)) := by
  cases h with
  | tup h1 h2 =>
    cases ats_ints h2
    exact ⟨_, rfl, by rw [kV_map]; exact e _ _ h1⟩
/-- k not in d -/
theorem et_notin {i : Nat} {kvs : List (List Int × List D)} {k : List Int} (h : ds[i]? = some (some (.g kvs))) (hk : EvS K ty ds (.p (.tup (k.map I)))) : EvT K (tB (tDNotIn ty (tVar i))) ds (!kvs.any fun x => decide (x.1 = k)) := fun σ H0 G H Q e q =>
  hk σ H0 G H _ e fun y G1 H1 g1 hy => by
    obtain ⟨v, hv, a, bs, rfl, a1, a2, a3, a4, a5⟩ := (e.gr g1).get i _ h
    obtain ⟨b, rfl, hb⟩ := tup_ints g1.s hy
    refine ⟨_, hv, a, _, rfl, DGet.t a3 hb, _, rfl, ?_⟩
    have hl : kvs.length = bs.length := by have := a4.len; rw [List.length_map] at this; exact this.symm
    rw [rawK_any hl]
    exact q G1 H1 g1
/-- d[k] = [], k not yet there -/
theorem sd_dput {i : Nat} {kvs : List (List Int × List D)} {k : List Int} (h : ds[i]? = some (some (.g kvs))) (hno : (ds.set i none).all isP = true) (hk : EvS K ty ds (.p (.tup (k.map I)))) (hn : ∀ x ∈ kvs, x.1 ≠ k) (hl : kvs.length < 1000) (hN : N (ds.set i (some (.g (kvs ++ [(k, [])]))))) :
    SD K (sDPut (tVar i) ty (tLst tNil)) ds N R := fun E σ G0 H0 G H g e n r => by
  refine ⟨Nat.zero_le _, fun p hp => ?_⟩
  have g1 : Gr G H G (upd H p (.lst [])) := .own e.gh hp
  have e1 := e.gr g1
  obtain ⟨v, hv, a, bs, rfl, a1, a2, a3, a4, a5⟩ := e1.get i _ h
  refine ⟨_, hv, hk σ H0 G _ _ e1 fun y G2 H2 g2 hy => ?_⟩
  obtain ⟨b, rfl, hb⟩ := tup_ints g2.s hy
  have e2 := e1.gr g2
  have g12 := g1.trans g2
  obtain ⟨v', hv', a', bs', ev', c1, c2, c3, c4, c5⟩ := e2.get i _ h
  rw [hv] at hv'
  cases hv'
  cases ev'
  have a3' := g2.h _ _ a3
  rw [c3] at a3'
  have hlb : kvs.length = bs'.length := by have := c4.len; rw [List.length_map] at this; exact this.symm
  have hp0 : H0 p = none := e.h0.free hp
  have hpG : G2 p = none := by rw [g2.n p (by rw [upd_same]; simp)]; exact e.gh.free hp
  have hpH : H2 p = some (.lst []) := g2.h _ _ upd_same
  have hlen : (rawK kvs bs').length < sizeLine := by
    unfold rawK
    rw [List.length_map, List.length_zip]
    exact Nat.lt_of_lt_of_le (m := 1000) (by omega) (by decide)
  have npa : p ≠ a := fun z => by
    rw [z, c3] at hpH
    cases hpH
  -- p is none of the lists: they stood ahead of it
  have npb : p ∉ bs' := fun z => by
    obtain ⟨v0, hv0, a0, bs0, ev0, d1, d2, d3, d4, d5⟩ := e.get i _ h
    rw [hv] at hv0
    cases hv0
    cases ev0
    have d3' := g12.h _ _ d3
    rw [c3] at d3'
    have eb : bs' = bs0 := by
      have l0 : kvs.length = bs0.length := by have := d4.len; rw [List.length_map] at this; exact this.symm
      have r1 := rawK_snd hlb
      have r2 := rawK_snd l0
      have : rawK kvs bs' = rawK kvs bs0 := by injection (Option.some.inj d3')
      rw [this, r2] at r1
      exact ((List.map_inj_right fun _ _ z => by injection z).mp r1).symm
    rw [eb] at z
    exact (d4.all p z).2.2 hp
  refine ⟨a, _, rfl, DPut.t c3 hb hlen, ?_⟩
  have ep : putK (rawK kvs bs') (k.map Sum.inl) (.ref p) = rawK (kvs ++ [(k, [])]) (bs' ++ [p]) := by
    have hany : ((rawK kvs bs').any fun kv => decide (kv.1 = k.map Sum.inl)) = false := by
      rw [List.any_eq_false]
      intro x hx
      unfold rawK at hx
      obtain ⟨y, hy, rfl⟩ := List.mem_map.mp hx
      have := hn y.1 (List.of_mem_zip hy).1
      simp only [decide_eq_true_eq]
      exact fun z => this (inl_inj z)
    unfold putK
    rw [hany, if_neg (by decide), rawK_app hlb]
    rfl
  rw [ep]
  have gg : Gr G0 H0 G2 (upd H2 a (.dT (rawK (kvs ++ [(k, [])]) (bs' ++ [p])))) := (g.trans g12).mut c1 c2
  refine n _ σ G2 _ gg g12.g ⟨e2.h0.putR c1, gg.s, by rw [List.length_set]; exact e2.len, fun j s hj => ?_, fun j m ys zs hj hm z => ?_⟩ hN
  · rcases get_set hj with ⟨rfl, z⟩ | ⟨hne, z⟩
    · cases z
      have nda := List.nodup_cons.mp c5
      refine ⟨_, hv, a, bs' ++ [p], rfl, c1, c2, upd_same, ?_, ?_⟩
      · rw [List.map_append]
        refine OwnL.join ?_ (c4.keep fun b hb => upd_ne fun z => nda.1 (z ▸ hb))
        exact .cons hp0 hpG (by rw [upd_ne npa]; exact hpH) .nil .nil
      · rw [List.nodup_cons, List.nodup_append]
        refine ⟨fun z => ?_, nda.2, by simp, fun x hx y hy z => ?_⟩
        · rcases List.mem_append.mp z with z | z
          · exact nda.1 z
          · exact npa (List.mem_singleton.mp z).symm
        · rw [List.mem_singleton.mp hy] at z
          exact npb (z ▸ hx)
    · obtain ⟨w, hw, ha⟩ := e2.get j s z
      have : (ds.set i none)[j]? = some (some s) := by rw [List.getElem?_set_ne (Ne.symm hne)]; exact z
      obtain ⟨d', rfl⟩ := onlyP hno this
      exact ⟨w, hw, ha⟩
  · rcases get_set hj with ⟨rfl, z'⟩ | ⟨hne, z'⟩
    · cases z'
    · have : (ds.set i none)[j]? = some (some (.o ys)) := by rw [List.getElem?_set_ne (Ne.symm hne)]; exact z'
      obtain ⟨d', hd'⟩ := onlyP hno this
      cases hd'
/-- d[k].append(x) -/
theorem sd_dapp {i : Nat} {pre post : List (List Int × List D)} {k : List Int} {xs : List D} (h : ds[i]? = some (some (.g (pre ++ (k, xs) :: post)))) (hno : (ds.set i none).all isP = true) (hk : EvS K ty ds (.p (.tup (k.map I)))) (he : EvS K te ds (.p d)) (hn : ∀ x ∈ pre, x.1 ≠ k) (hl : xs.length < 1000)
    (hN : N (ds.set i (some (.g (pre ++ (k, xs ++ [d]) :: post))))) : SD K (tDrop (tBM K "list" rAppend (tDGet (tVar i) ty) (tCons te tNil))) ds N R := fun E σ G0 H0 G H g e n r => by
  obtain ⟨v, hv, a, bs, rfl, a1, a2, a3, a4, a5⟩ := e.get i _ h
  refine ⟨_, hv, hk σ H0 G H _ e fun y G1 H1 g1 hy => ?_⟩
  obtain ⟨b, rfl, hb⟩ := tup_ints g1.s hy
  have e1 := e.gr g1
  have o1 := a4.gr g1
  rw [List.map_append, List.map_cons] at o1
  obtain ⟨b1, c, b2, vs, rfl, k1, k2, k3, k4, k5, k6⟩ := o1.split
  have hlp : pre.length = b1.length := by have := k1.len; rw [List.length_map] at this; exact this.symm
  have hget : valV (rawK (pre ++ (k, xs) :: post) (b1 ++ c :: b2)) (k.map Sum.inl) = some (.ref c) := by
    rw [rawK_app hlp, rawK_none hn hlp]
    unfold rawK
    rw [List.zip_cons_cons, List.map_cons, valV_pos rfl]
  refine ⟨a, .ref c, rfl, hget ▸ DGet.t (g1.h _ _ a3) hb, .inl ⟨rfl, _, SqL.of k4⟩, he σ H0 G1 H1 _ e1 fun x G2 H2 g2 hx => ?_⟩
  have e2 := e1.gr g2
  have k4' := g2.h _ _ k4
  have k3' : G2 c = none := by rw [g2.n c (by rw [k4]; simp)]; exact k3
  refine ⟨c, _, x, rfl, rfl, k4', Nat.lt_of_lt_of_le (m := 1000) (by rw [k5.len]; exact hl) (by decide), ?_⟩
  have g12 := g1.trans g2
  have gg : Gr G0 H0 G2 (upd H2 c (.lst (vs ++ [x]))) := (g.trans g12).mut k2 k3'
  have nd := List.nodup_cons.mp a5
  have nd2 := List.nodup_append.mp nd.2
  have nd3 := List.nodup_cons.mp nd2.2.1
  have nac : a ≠ c := fun z => nd.1 (by rw [z]; simp)
  refine n _ σ G2 _ gg g12.g ⟨e2.h0.putR k2, gg.s, by rw [List.length_set]; exact e2.len, fun j s hj => ?_, fun j m ys zs hj hm z => ?_⟩ hN
  · rcases get_set hj with ⟨rfl, z⟩ | ⟨hne, z⟩
    · cases z
      refine ⟨_, hv, a, b1 ++ c :: b2, rfl, a1, by rw [g12.n a (by rw [a3]; simp)]; exact a2, ?_, ?_, a5⟩
      · rw [upd_ne nac, g12.h _ _ a3]
        unfold rawK
        rw [List.zip_append hlp, List.zip_append hlp, List.zip_cons_cons, List.zip_cons_cons, List.map_append, List.map_append, List.map_cons, List.map_cons]
      · rw [List.map_append, List.map_cons]
        refine OwnL.join (.cons k2 k3' upd_same (((k5.mono g2.g).app (.one hx))) ((k6.gr g2).keep fun q hq => upd_ne fun z => nd3.1 (z ▸ hq))) ((k1.gr g2).keep fun q hq => upd_ne fun z => ?_)
        exact nd2.2.2 q hq c List.mem_cons_self z
    · obtain ⟨w, hw, ha⟩ := e2.get j s z
      have : (ds.set i none)[j]? = some (some s) := by rw [List.getElem?_set_ne (Ne.symm hne)]; exact z
      obtain ⟨d', rfl⟩ := onlyP hno this
      exact ⟨w, hw, ha⟩
  · rcases get_set hj with ⟨rfl, z'⟩ | ⟨hne, z'⟩
    · cases z'
    · have : (ds.set i none)[j]? = some (some (.o ys)) := by rw [List.getElem?_set_ne (Ne.symm hne)]; exact z'
      obtain ⟨d', hd'⟩ := onlyP hno this
      cases hd'
/-- return list(d.values()) -/
theorem sd_retVals {i : Nat} {kvs : List (List Int × List D)} (h : ds[i]? = some (some (.g kvs))) (hr : R (.q (kvs.map Prod.snd))) : SD K (tRet (tListVals (tVar i))) ds N R := fun E σ G0 H0 G H g e n r => by
  obtain ⟨v, hv, a, bs, rfl, a1, a2, a3, a4, a5⟩ := e.get i _ h
  refine ⟨_, hv, a, _, rfl, a3, fun p hp => ?_⟩
  have hlb : kvs.length = bs.length := by have := a4.len; rw [List.length_map] at this; exact this.symm
  rw [rawK_snd hlb]
  have g1 : Gr G H G (upd H p (.lst (bs.map V.ref))) := .own e.gh hp
  refine r _ (.q (kvs.map Prod.snd)) G _ (g.trans g1) ⟨p, bs, rfl, e.h0.free hp, e.gh.free hp, upd_same, a4.gr g1, ?_⟩ hr
  exact List.nodup_cons.mpr ⟨fun z => (a4.all p z).2.2 hp, (List.nodup_cons.mp a5).2⟩
open Classical in
noncomputable def frzG (P : Addr → Prop) (H' G' : Hp) : Hp := fun a => if P a then H' a else G' a
theorem frzG_pos {P : Addr → Prop} {H' G' : Hp} {a : Addr} (h : P a) : frzG P H' G' a = H' a := if_pos h
theorem frzG_neg {P : Addr → Prop} {H' G' : Hp} {a : Addr} (h : ¬ P a) : frzG P H' G' a = G' a := if_neg h
/-- owned things are owned no more -/
theorem frzG_ex {P : Addr → Prop} {H' G' : Hp} (h : ∀ a, P a → G' a = none) : Ex G' (frzG P H' G') := fun a o q => by
  by_cases p : P a
  · rw [h a p] at q; cases q
  · rw [frzG_neg p]; exact q
theorem Gr.frzP {G H G' H' : Hp} (g : Gr G H G' H') (P : Addr → Prop) (h : ∀ a, P a → H a = none ∧ G' a = none) : Gr G H (frzG P H' G') H' := by
  refine ⟨g.g.trans (frzG_ex fun a p => (h a p).2), g.h, fun a o q => ?_, fun a q => ?_⟩
  · by_cases p : P a
    · rw [frzG_pos p] at q; exact q
    · rw [frzG_neg p] at q; exact g.s _ _ q
  · rw [frzG_neg fun p => q (h a p).1]
    exact g.n a q
theorem EvS.pureQ {xss : List (List D)} (h : EvS K te ds (.q xss)) : EvS K te ds (.p (.lst (xss.map D.lst))) := fun σ H0 G H Q e q =>
  h σ H0 G H Q e fun v G' H' g hq => by
    obtain ⟨a, bs, rfl, a1, a2, a3, a4, a5⟩ := hq
    have hP : ∀ x, (x = a ∨ x ∈ bs) → H x = none ∧ G' x = none := fun x hx => by
      rcases hx with rfl | hx
      · exact ⟨a1, a2⟩
      · exact ⟨(a4.all x hx).1, (a4.all x hx).2.1⟩
    have g2 := g.frzP (fun x => x = a ∨ x ∈ bs) hP
    have x1 : Ex G' (frzG (fun x => x = a ∨ x ∈ bs) H' G') := frzG_ex fun x hx => (hP x hx).2
    refine q _ _ H' g2 (.lst (xs := bs.map V.ref) (by rw [frzG_pos (.inl rfl)]; exact a3) ?_)
    have key : ∀ {cs : List Addr} {yss : List (List D)}, (∀ b ∈ cs, b ∈ bs) → OwnL K H G' H' cs yss → Ats K (frzG (fun x => x = a ∨ x ∈ bs) H' G') (cs.map V.ref) (yss.map D.lst) := by
      intro cs yss hc ho
      induction ho with
      | nil => exact .nil
      | @cons b cs' vs xs yss' b1 b2 b3 b4 _ ih =>
        refine .cons (.lst (xs := vs) ?_ (b4.mono x1)) (ih fun c hc' => hc c (List.mem_cons_of_mem _ hc'))
        rw [frzG_pos (.inr (hc b List.mem_cons_self))]
        exact b3
    exact key (fun _ z => z) a4
end
end HM

/-! LayH -/
namespace HM
open PySem L2
theorem hu1 {k : Nat} {A : Around} (r : Room k A) : A.units + 1 < cLine := by have := r.un; omega
theorem hu65 {k : Nat} {A : Around} (r : Room k A) : A.units + 65 < cLine := by have := r.un; omega
section
variable {K : PySem.W.Frag} {ds : Env} {ta tb te tl td ty : TE} {t u v : TS} {c : TT} {d : D} {s : S} {N : Env → Prop} {R : S → Prop}
theorem sd_assoc (h : SD K (tSeq (tSeq t u) v) ds N R) : SD K (tSeq t (tSeq u v)) ds N R := h
theorem sd_then (h : SD K t ds (fun ds' => SD K tNext ds' N R) R) : SD K t ds N R := sd_seq (u := tNext) h
/-- what t does beside an owned list of owned lists -/
theorem sd_frame {i : Nat} {xss : List (List D)} (h : ds[i]? = some (some (.q xss))) (hno : (ds.set i none).all isP = true)
    (k : ∀ a : Addr, SD K t (ds.set i (some (.p (.val (.ref a))))) (fun ds' => ds'[i]? = some (some (.p (.val (.ref a)))) ∧ N (ds'.set i (some (.q xss)))) R) : SD K t ds N R := fun E σ G0 H0 G H g e n r => by
  obtain ⟨w, hw, ha⟩ := e.get i _ h
  have ha' := ha
  obtain ⟨a, bs, rfl, a1, a2, a3, a4, a5⟩ := ha
  have pure' : ∀ (j : Nat) (s : S), (ds.set i (some (.p (.val (.ref a)))))[j]? = some (some s) → ∃ d, s = .p d := fun j s hj => by
    rcases get_set hj with ⟨rfl, z⟩ | ⟨hne, z⟩
    · cases z; exact ⟨_, rfl⟩
    · exact onlyP hno (by rw [List.getElem?_set_ne (Ne.symm hne)]; exact z)
  have eb : En K H G H σ (ds.set i (some (.p (.val (.ref a))))) := by
    refine ⟨.refl _, e.gh, by rw [List.length_set]; exact e.len, fun j s hj => ?_, fun j m xs ys hj => ?_⟩
    · obtain ⟨d', rfl⟩ := pure' j s hj
      rcases get_set hj with ⟨rfl, z⟩ | ⟨hne, z⟩
      · cases z; exact ⟨_, hw, .val _⟩
      · obtain ⟨x, hx, hd⟩ := e.get j _ z
        exact ⟨x, hx, hd⟩
    · obtain ⟨d', hd'⟩ := pure' j _ hj
      cases hd'
  refine k a E σ G H G H (.refl e.gh) eb (fun ds' σ' G' H' g' x' e' hN => ?_) fun w s G' H' g' hv hR => r w s G' H' (g.trans g') (hv.back e.h0) hR
  obtain ⟨h1, hN⟩ := hN
  have gi : i < ds'.length := (List.getElem?_eq_some_iff.mp h1).1
  obtain ⟨w', hw', hd'⟩ := e'.get i _ h1
  cases hd'
  refine n _ σ' G' H' (g.trans g') g'.g ⟨e.h0.trans g'.h, g'.s, by rw [List.length_set]; exact e'.len, fun j s hj => ?_, fun j m xs ys hj hm z => ?_⟩ hN
  · rcases get_set hj with ⟨rfl, z⟩ | ⟨hne, z⟩
    · cases z
      exact ⟨_, hw', ha'.gr g'⟩
    · obtain ⟨x, hx, hd⟩ := e'.get j s z
      exact ⟨x, hx, hd.back e.h0⟩
  · rcases get_set hj with ⟨rfl, z'⟩ | ⟨hne, z'⟩
    · cases z'
    · rcases get_set hm with ⟨rfl, z2⟩ | ⟨hne2, z2⟩
      · cases z2
      · exact e'.ne j m xs ys z' z2 z
theorem own_at {H0 G H : Hp} : ∀ {bs : List Addr} {xss : List (List D)}, OwnL K H0 G H bs xss → ∀ {m : Nat} {b : Addr}, bs[m]? = some b → ∃ vs xs, H b = some (.lst vs) ∧ vs.length = xs.length ∧ xs ∈ xss
  | _, _, .cons h1 h2 h3 h4 t, 0, b, h => by
    simp at h
    subst h
    exact ⟨_, _, h3, h4.len, List.mem_cons_self⟩
  | _, _, .cons h1 h2 h3 h4 t, m + 1, b, h => by
    obtain ⟨vs, xs, k1, k2, k3⟩ := own_at t (m := m) (b := b) (by simpa using h)
    exact ⟨vs, xs, k1, k2, List.mem_cons_of_mem _ k3⟩
/-- for x in xss: x.append(v) -/
theorem sd_appAll {i j : Nat} {xss : List (List D)} {w : V} (h : ds[i]? = some (some (.q xss))) (hno : (ds.set i none).all isP = true) (hj : j < ds.length) (hl : ∀ xs ∈ xss, xs.length < 1000) (hN : N ((ds.set i none).set j none)) :
    SD K (tFor (iList K (tVar i)) (gName j) (tDrop (tBM K "list" rAppend (tVar j) (tCons (tC w) tNil)))) ds N R := fun E σ G0 H0 G H g e n r => by
  obtain ⟨x, hx, a, bs, rfl, a1, a2, a3, a4, a5⟩ := e.get i _ h
  have nd := List.nodup_cons.mp a5
  have hjσ : j < σ.length := by rw [← e.len]; exact hj
  refine ⟨_, hx, a, rfl, ⟨_, SqL.of a3⟩, ?_⟩
  refine for_it (walk_list (K := K) (a := a) (xs := bs.map V.ref)) (fun m σ' H' => Gr G0 H0 G H' ∧ H' a = some (.lst (bs.map V.ref)) ∧ (σ'.length = σ.length ∧ ∀ q, q ≠ j → σ'[q]? = σ[q]?) ∧ ∀ q b, m ≤ q → bs[q]? = some b → ∃ vs, H' b = some (.lst vs) ∧ vs.length < 1000)
    ⟨g, a3, ⟨rfl, fun _ _ => rfl⟩, fun q b _ hq => ?_⟩ (fun m σ' H' _ hI => SqL.of hI.2.1) ?_ ?_
  · obtain ⟨vs, xs, k1, k2, k3⟩ := own_at a4 hq
    exact ⟨vs, k1, by rw [k2]; exact hl xs k3⟩
  · rintro m x σ' H' H2 hm ⟨i1, i2, i3, i4⟩ ⟨rfl, hy⟩
    rw [List.getElem?_map] at hy
    cases hb : bs[m]? with
    | none => rw [hb] at hy; cases hy
    | some b =>
    rw [hb] at hy
    cases hy
    obtain ⟨vs, k1, k2⟩ := i4 m b (Nat.le_refl _) hb
    have hbm : b ∈ bs := List.mem_of_getElem? hb
    have hbo := a4.all b hbm
    have nab : a ≠ b := fun z => nd.1 (z ▸ hbm)
    refine ⟨.ref b, List.getElem?_set_self (by rw [i3.1]; exact hjσ), .inl ⟨rfl, _, SqL.of k1⟩, b, vs, w, rfl, rfl, k1, Nat.lt_of_lt_of_le (m := 1000) k2 (by decide), ?_⟩
    refine ⟨i1.mut hbo.1 hbo.2.1, by rw [upd_ne nab]; exact i2, ⟨by rw [List.length_set]; exact i3.1, fun q hq => by rw [List.getElem?_set_ne (Ne.symm hq)]; exact i3.2 q hq⟩, fun q b' hq hb' => ?_⟩
    have hne : b' ≠ b := fun z => by
      subst z
      have l1 := (List.getElem?_eq_some_iff.mp hb).1
      have l2 := (List.getElem?_eq_some_iff.mp hb').1
      have e1 := (List.getElem?_eq_some_iff.mp hb).2
      have e2 := (List.getElem?_eq_some_iff.mp hb').2
      exact List.pairwise_iff_getElem.mp nd.2 m q l1 l2 (by omega) (e1.trans e2.symm)
    rw [upd_ne hne]
    exact i4 q b' (by omega) hb'
  · rintro σ' H' ⟨i1, i2, i3, i4⟩
    have hp : ∀ (m : Nat) (s : S), ((ds.set i none).set j none)[m]? = some (some s) → m ≠ j ∧ (ds.set i none)[m]? = some (some s) := fun m s hm => by
      rcases get_set hm with ⟨_, z⟩ | ⟨hne, z⟩
      · cases z
      · exact ⟨hne, z⟩
    refine n _ σ' G H' i1 (.refl _) ⟨i1.h, i1.s, by rw [List.length_set, List.length_set, i3.1]; exact e.len, fun m s hm => ?_, fun m q xs ys hm => ?_⟩ hN
    · obtain ⟨h1, h2⟩ := hp m s hm
      obtain ⟨d', rfl⟩ := onlyP hno h2
      rcases get_set h2 with ⟨_, z⟩ | ⟨hne, z⟩
      · cases z
      · obtain ⟨x, hx', hd⟩ := e.get m _ z
        exact ⟨x, by rw [i3.2 m h1]; exact hx', hd⟩
    · obtain ⟨h1, h2⟩ := hp m _ hm
      obtain ⟨d', hd'⟩ := onlyP hno h2
      cases hd'
end
end HM
namespace HM
open PySem L2
section
variable {K : PySem.W.Frag} {ds : Env} {ta tb te tl td ty tk : TE} {d : D} {s : S}
theorem ev_ixO {i : Nat} {xs : List D} {k : Int} (h : ds[i]? = some (some (.o xs))) (hk : EvS K tk ds (.p (I k))) (ha : atI xs k = some d) : EvS K (tOp (rIxA K) (tVar i) tk) ds (.p d) := fun σ H0 G H Q e q => by
  obtain ⟨a, vs, h1, h2, h3, h4, h5⟩ := e.own h
  refine ⟨_, h1, hk σ H0 G H _ e fun y G1 H1 g1 hy => ?_⟩
  cases hy
  obtain ⟨v, k1, k2⟩ := atI_ats (h5.mono g1.g) ha
  exact .inl ⟨a, _, k, v, rfl, rfl, SqL.of (g1.h _ _ h4), k1, q v G1 H1 g1 k2⟩
theorem ev_dnewK : EvS K tDNewK ds (.p .emp) := fun σ H0 G H Q e q => fun p hp => q _ (upd G p (.dK [])) _ (.new e.gh hp) (.emp upd_same)
end
end HM

/-! LayJ -/
namespace HM
open PySem PySem.Spec PyProof.Rows L2
/-! ### lambdas: the tables of code objects grow, all else stays -/
def unT (G : Hp) : Hp := fun a => match G a with | some (.tbl _) => none | o => o
theorem unT_some {G : Hp} {a : Addr} {o : HO} (h : G a = some o) (n : ∀ ps, o ≠ .tbl ps) : unT G a = some o := by
  unfold unT
  rw [h]
  cases o <;> first | rfl | exact absurd rfl (n _)
theorem of_unT {G : Hp} {a : Addr} {o : HO} (h : unT G a = some o) : G a = some o ∧ ∀ ps, o ≠ .tbl ps := by
  unfold unT at h
  cases q : G a with
  | none => rw [q] at h; cases h
  | some u =>
    rw [q] at h
    cases u <;> first | (cases h; exact ⟨rfl, fun ps z => by cases z⟩) | cases h
section
variable {K : PySem.W.Frag} {G H H1 H0 : Hp} {σ : L2.St} {ds : Env} {T : List (Addr × Str)}
theorem seq_unT {a : Addr} {xs : List V} (h : SqL K G a xs) : SqL K (unT G) a xs := by
  rcases h with (h | ⟨o, h⟩) | h
  · exact .inl (.inl (unT_some h fun ps z => by cases z))
  · exact .inl (.inr ⟨o, unT_some h fun ps z => by cases z⟩)
  · exact .inr h
theorem At.unT {v : V} {d : D} (h : At K G v d) : At K (unT G) v d :=
  At.rec (motive_1 := fun v d _ => At K (HM.unT G) v d) (motive_2 := fun vs ds _ => Ats K (HM.unT G) vs ds) (motive_3 := fun vs ds _ => AtF K (HM.unT G) vs ds)
    (fun v => .val v) (fun h _ ih => .lst (unT_some h fun ps z => by cases z) ih) (fun h _ ih => .fz (seq_unT h) ih) (fun h _ ih => .tup (unT_some h fun ps z => by cases z) ih) (fun h _ ih => .ins (unT_some h fun ps z => by cases z) ih) (fun h => .emp (unT_some h fun ps z => by cases z))
    .nil (fun _ _ i1 i2 => .cons i1 i2) .nil (fun _ _ i1 i2 => .cons i1 i2) h
theorem ex_unT (e : Ex G H) (x : LamX.ExtN H H1) : Ex (unT G) H1 := fun a o h => let ⟨h1, h2⟩ := of_unT h; x a o (e a o h1) h2
theorem En.base (e : En K H0 G H σ ds) (hp : ds.all isP = true) : En K H G H σ ds :=
  ⟨.refl _, e.gh, e.len, fun i s h => by
    obtain ⟨v, hv, ha⟩ := e.get i s h
    obtain ⟨d, rfl⟩ := onlyP hp h
    exact ⟨v, hv, ha⟩, e.ne⟩
theorem En.lam (e : En K H0 G H σ ds) (hp : ds.all isP = true) (x : LamX.ExtN H H1) : En K H1 (unT G) H1 σ ds :=
  ⟨.refl _, ex_unT e.gh x, e.len, fun i s h => by
    obtain ⟨v, hv, ha⟩ := e.get i s h
    obtain ⟨d, rfl⟩ := onlyP hp h
    exact ⟨v, hv, At.unT ha⟩, e.ne⟩
theorem Gr.ext {G' H' : Hp} (g : Gr G H G' H') : LamX.ExtN H H' := LamX.ExtN.of g.h
end
/-- a statement of a def that makes lambdas; it ends in a return -/
def SDL (K : PySem.W.Frag) (T : List (Addr × Str)) (t : TS) (ds : Env) (R : V → Prop) : Prop := ∀ (E : Ends) (σ : L2.St) (G H : Hp), En K H G H σ ds → LamX.Tabs T H → (∀ v H', LamX.ExtN H H' → LamX.Tabs T H' → R v → E.rt v H') → t E σ H
/-- a reading that makes lambdas, or calls who do -/
def EvL (K : PySem.W.Frag) (T : List (Addr × Str)) (te : TE) (ds : Env) (v : V) : Prop := ∀ (σ : L2.St) (H0 G H : Hp) (Q : VK), En K H0 G H σ ds → LamX.Tabs T H → (∀ H', LamX.ExtN H H' → LamX.Tabs T H' → Q v H') → te σ H Q
def spT (K : PySem.W.Frag) (T : List (Addr × Str)) (Pr : List D → V → Prop) : Sp := fun vs H Q _ => ∃ G ds v, Ex G H ∧ Ats K G vs ds ∧ Pr ds v ∧ LamX.Tabs T H ∧ ∀ H', LamX.ExtN H H' → LamX.Tabs T H' → Q v H'
section
variable {K : PySem.W.Frag} {T : List (Addr × Str)} {ds e : Env} {te : TE} {t u A : TS} {R : V → Prop} {v : V}
theorem SDL.sub (h : Sub e ds) (k : SDL K T t e R) : SDL K T t ds R := fun E σ G H en hT r => k E σ G H (en.drop h.len h.get) hT r
theorem sdl_seq (h : SD K t ds (fun ds' => ds'.all isP = true ∧ SDL K T u ds' R) (fun s => ∃ v, s = .p (.val v) ∧ R v)) : SDL K T (tSeq t u) ds R := fun E σ G H en hT r =>
  h { E with nx := u E } σ G H G H (.refl en.gh) en (fun ds' σ' G' H' g' x' e' ⟨hp, hu⟩ => hu E σ' G' H' (e'.base hp) (hT.ext g'.h) fun v H2 x2 t2 hr => r v H2 (g'.ext.trans x2) t2 hr)
    fun v s G' H' g' hv ⟨v', hs, hr⟩ => by
      subst hs
      cases hv
      exact r _ H' g'.ext (hT.ext g'.h) hr
theorem sdl_seqE (e : Env) (hp : e.all isP = true) (h : SD K t ds (fun ds' => Sub e ds') (fun s => ∃ v, s = .p (.val v) ∧ R v)) (k : SDL K T u e R) : SDL K T (tSeq t u) ds R := fun E σ G H en hT r =>
  h { E with nx := u E } σ G H G H (.refl en.gh) en (fun ds' σ' G' H' g' x' e' hs => k E σ' G' H' ((e'.drop hs.len hs.get).base hp) (hT.ext g'.h) fun v H2 x2 t2 hr => r v H2 (g'.ext.trans x2) t2 hr)
    fun v s G' H' g' hv ⟨v', hs, hr⟩ => by
      subst hs
      cases hv
      exact r _ H' g'.ext (hT.ext g'.h) hr
theorem sdl_ret (h : EvS K te ds (.p (.val v))) (hr : R v) : SDL K T (tRet te) ds R := fun E σ G H en hT r =>
  h σ H G H _ en fun v' G' H' g' hv => by
    cases hv
    exact r _ H' g'.ext (hT.ext g'.h) hr
theorem sdl_retL (h : EvL K T te ds v) (hr : R v) : SDL K T (tRet te) ds R := fun E σ G H en hT r => h σ H G H _ en hT fun H' x t => r _ H' x t hr
/-- if not f(..): .., behind it the rest -/
theorem sdl_ifnot (h : EvL K T te ds (.bl true)) (hp : ds.all isP = true) (k : SDL K T u ds R) : SDL K T (tSeq (tIfS (tNot (tB te)) A tNext) u) ds R := fun E σ G H en hT r =>
  h σ H G H _ en hT fun H' x t => ⟨true, rfl, k E σ (unT G) H' (en.lam hp x) t fun v H2 x2 t2 hr => r v H2 (x.trans x2) t2 hr⟩
theorem evl_call {Pr : List D → V → Prop} {E : XK} {ta : TA} {as : List D} (h : EvA K ta ds as) (hp : Pr as v) : EvL K T (tCall (spT K T Pr) [] E ta) ds v := fun σ H0 G H Q en hT q =>
  h σ H0 G H _ en fun vs G1 H1 g1 hv => ⟨G1, as, v, g1.s, by rw [List.append_nil]; exact hv, hp, hT.ext g1.h, fun H' x t => q H' (g1.ext.trans x) t⟩
theorem SDL.run {M : Nat} {vs : List V} {as : List D} {G H : Hp} {Q : VK} (g : Ex G H) (ha : Ats K G vs as) (hT : LamX.Tabs T H) (q : ∀ H', LamX.ExtN H H' → LamX.Tabs T H' → Q v H')
    (h : SDL K T t (as.map (fun d => some (S.p d)) ++ List.replicate (M - as.length) none) (fun v' => v' = v)) : t { nx := fun _ H' => Q .non H', rt := Q } (vs.map some ++ List.replicate (M - vs.length) none) H := by
  refine h _ _ G H ⟨.refl _, g, ?_, fun i s' hi => ?_, fun i j xs ys hi hj => ?_⟩ hT (fun v' H' x t hr => by rw [hr]; exact q H' x t)
  · rw [List.length_append, List.length_append, List.length_map, List.length_map, List.length_replicate, List.length_replicate, ha.len]
  · by_cases hl : i < as.length
    · rw [List.getElem?_append_left (by rw [List.length_map]; exact hl), List.getElem?_map] at hi
      cases q' : as[i]? with
      | none => rw [q'] at hi; cases hi
      | some d =>
        rw [q'] at hi
        cases hi
        obtain ⟨v, h1, h2⟩ := ha.get q'
        refine ⟨v, ?_, h2⟩
        rw [List.getElem?_append_left (by rw [List.length_map, ha.len]; exact hl), List.getElem?_map, h1]
        rfl
    · rw [List.getElem?_append_right (by rw [List.length_map]; omega), List.getElem?_replicate] at hi
      split at hi <;> cases hi
  · by_cases hl : i < as.length
    · rw [List.getElem?_append_left (by rw [List.length_map]; exact hl), List.getElem?_map] at hi
      cases q' : as[i]? with
      | none => rw [q'] at hi; cases hi
      | some d => rw [q'] at hi; cases hi
    · rw [List.getElem?_append_right (by rw [List.length_map]; omega), List.getElem?_replicate] at hi
      split at hi <;> cases hi
end
section
variable {P : Program} {w : World} {K : PySem.W.Frag} {mg : Str → Option Value} {base : Heap} {T : List (Addr × Str)}
/-- a def whose code object stands at c -/
def FunC (K : PySem.W.Frag) (mg : Str → Option Value) (name : Str) (st : Stmt) (c : Addr) : Prop := ∃ (f : Addr) (oc : Value) (od : Option Addr) (kV doc pm : Value) (an : Option Addr) (ct : Value) (osl : Array (Option Value)),
  K.lookup f = some ⟨oc, od, .func (PySem.W.fnOf name name (defArgs st) (defBody st) (defScope st) .none kV doc pm an (.ref c) ct), osl⟩ ∧ PySem.W.codeIn K (.ref c) name = true ∧ PySem.W.keepIn K (.ref f) = true ∧ mg name = some (.ref f)
theorem fnok_mkL {name qual : Str} {st : Stmt} {N ps : List Str} {k : Nat} {Pr : List D → V → Prop} {f : Addr} {fd : FuncData} (F : Fun K name qual st f fd) (sc : FnScope N ps (defScope st))
    (len : ∀ as v, Pr as v → as.length = ps.length)
    (body : ∀ (cdv : Value) (A : Around) (outer : List PySem.Env) (s : Shared) (H : Hp) (E : XK) (as : List D) (r : V), Room k (A.deeper (PyProof.Rows.envOfC qual (defScope st) s.heap.objs.size f cdv)) → Pr as r →
      ∃ t, PSs (cxOf CX0 P w K mg base N qual (defScope st) f cdv A outer s H E).nox (defBody st) t ∧ SDL K T t (as.map (fun d => some (S.p d)) ++ List.replicate (N.length - as.length) none) (fun v => v = r)) :
    FnOk P w K mg base CX0 (k + 1) f fd ps (spT K T Pr) := by
  refine F.ok sc (fun vs H Q E h => ?_) (fun cdv A outer s H vs Q E hr h => ?_)
  · obtain ⟨G, ds, s, _, ha, hp, _⟩ := h
    rw [ha.len]
    exact len _ _ hp
  · obtain ⟨G, ds, r, hg, ha, hp, hT, q⟩ := h
    obtain ⟨t, h1, h2⟩ := body cdv A outer s H E ds r hr hp
    exact ⟨t, h1, SDL.run hg ha hT q h2⟩
theorem callee_mkL {name : Str} {st : Stmt} {N ps : List Str} {k : Nat} {Pr : List D → V → Prop} (F : FunAt K mg name st) (sc : FnScope N ps (defScope st))
    (hb : ∀ (kV doc pm : Value) (an : Option Addr) (cdv ct : Value) (us : List Value), us.length = ps.length → bindArgs (PySem.W.fnOf name name (defArgs st) (defBody st) (defScope st) .none kV doc pm an cdv ct) ⟨us, []⟩ = pure (ps.zip us))
    (len : ∀ as v, Pr as v → as.length = ps.length)
    (body : ∀ (f : Addr) (cdv : Value) (A : Around) (outer : List PySem.Env) (s : Shared) (H : Hp) (E : XK) (as : List D) (r : V), Room k (A.deeper (PyProof.Rows.envOfC name (defScope st) s.heap.objs.size f cdv)) → Pr as r →
      ∃ t, PSs (cxOf CX0 P w K mg base N name (defScope st) f cdv A outer s H E).nox (defBody st) t ∧ SDL K T t (as.map (fun d => some (S.p d)) ++ List.replicate (N.length - as.length) none) (fun v => v = r)) :
    Callee P w K mg base name (k + 1) ps (spT K T Pr) := by
  obtain ⟨f, fd, F, hm⟩ := F
  exact ⟨f, fd, fnok_mkL F sc len (body f), hm, F.kp, F.binds hb⟩
theorem callee_mkC {name : Str} {st : Stmt} {c : Addr} {N ps : List Str} {k : Nat} {Pr : List D → V → Prop} (F : FunC K mg name st c) (sc : FnScope N ps (defScope st))
    (hb : ∀ (kV doc pm : Value) (an : Option Addr) (cdv ct : Value) (us : List Value), us.length = ps.length → bindArgs (PySem.W.fnOf name name (defArgs st) (defBody st) (defScope st) .none kV doc pm an cdv ct) ⟨us, []⟩ = pure (ps.zip us))
    (len : ∀ as v, Pr as v → as.length = ps.length)
    (body : ∀ (f : Addr) (A : Around) (outer : List PySem.Env) (s : Shared) (H : Hp) (E : XK) (as : List D) (r : V), Room k (A.deeper (PyProof.Rows.envOfC name (defScope st) s.heap.objs.size f (.ref c))) → Pr as r →
      ∃ t, PSs (cxOf CX0 P w K mg base N name (defScope st) f (.ref c) A outer s H E).nox (defBody st) t ∧ SDL K T t (as.map (fun d => some (S.p d)) ++ List.replicate (N.length - as.length) none) (fun v => v = r)) :
    Callee P w K mg base name (k + 1) ps (spT K T Pr) := by
  obtain ⟨f, oc, od, kV, doc, pm, an, ct, osl, lk, hcd, hk, hm⟩ := F
  refine ⟨f, _, ?_, hm, hk, .all (hb kV doc pm an (.ref c) ct)⟩
  refine fn_of lk hcd sc (fun vs H Q E h => ?_) fun A outer s H vs Q E hr h => ?_
  · obtain ⟨G, ds, s, _, ha, hp, _⟩ := h
    rw [ha.len]
    exact len _ _ hp
  · obtain ⟨G, ds, r, hg, ha, hp, hT, q⟩ := h
    obtain ⟨t, h1, h2⟩ := body f A outer s H E ds r hr hp
    exact ⟨t, h1.nox, SDL.run hg ha hT q h2⟩
/-- what may be raised, told with less -/
theorem cx_c {outer : List PySem.Env} {H : Hp} {s : Shared} {E : XK} {u : Value} {s' : Shared} (h : L2N.CX P w outer H s E u s') : L2.CX P w outer H s E u s' := by
  obtain ⟨a, B, H', cls, d, h1, h2, r⟩ := h
  exact ⟨a, B, H', cls, d, h1, L2H.flyingZ_imp (fun o z => z.zc) h2, r⟩
def CalleeC (P : Program) (w : World) (K : PySem.W.Frag) (mg : Str → Option Value) (base : Heap) (name : Str) (k : Nat) (ps : List Str) (sp : Sp) : Prop :=
  ∃ (f : Addr) (fd : FuncData), FnOk P w K mg base (L2.CX P w) k f fd ps sp ∧ mg name = some (.ref f) ∧ PySem.W.keepIn K (.ref f) = true ∧ Binds K fd ps []
theorem CalleeX.c {name : Str} {k : Nat} {ps : List Str} {sp : Sp} (C : CalleeX P w K mg base name k ps sp) : CalleeC P w K mg base name k ps sp := by
  obtain ⟨f, fd, F, r⟩ := C
  refine ⟨f, fd, ⟨F.len, fun A outer s H args us vs Q E hr h0 hb hv hs => codeAny_mono (F.run A outer s H args us vs Q E hr h0 hb hv hs) fun r s' h => ?_⟩, r⟩
  cases r with
  | error e => exact cx_c h
  | ok fl => cases fl <;> exact h
end
section
variable {X : Cx} {e : Expr} {es : List Expr} {t : TA} {p pos : Pos}
theorem pe_fnC {name : Str} {k : Nat} {ps : List Str} {sp : Sp} {W : WX} (C : CalleeC X.prog X.w X.K X.mg X.base name k ps sp) (tk : L2.Takes X W) (hr : Room k X.A) (hg : Gl X name) (ha : PA X (e :: es) t) (hdb : (name == ("__debug__" : Str)) = false := by decide)
    (he : starEach (e :: es) X.env = (false, eval e X.env) :: starEach es X.env := by rfl) (hpl : (backTo pos (starEach es X.env)).any (·.1) = false := by rfl) :
    PE X (.Call (.Name name p) (e :: es) [] pos) (tCallS sp (WE W) t) := by
  obtain ⟨f, fd, F, hm, hk, hb⟩ := C
  exact pe_callS F hr hg hm hk hb (fun σ => L2.passAt tk σ) ha hdb he hpl
theorem call_isC {K : PySem.W.Frag} {a : Addr} {cls : Value} {d : Option Addr} {oe : Obj} {pn : List (Addr × Obj)} (hz : Zc cls d oe) (hf : ∃ vs, oe.data = .fields vs) (hK : X.K = K := by rfl) : CallR (X.suite a ((a, oe) :: pn)) (.builtin "isinstance") (rIsG K cls d a) := by
  subst hK
  intro pins s σ H xs us Q I r h
  obtain ⟨D, c, cv, b, rfl, rfl, C, rfl, h1, h2, q⟩ := h
  exact call_isE C hz hf pins s σ H _ us Q I r ⟨c, cv, b, rfl, h1, h2, q⟩
end
/-- try: a() .. except x as e: return isinstance(e, y), what a() raises being of x -/
def TNo (K : PySem.W.Frag) (XD XO : Addr) : (XK → Hp → VK → Prop) → Hp → VK → Prop := fun tl H Q =>
  tl (fun cls d H' => ∃ (C : Addr) (b : Bool), cls = .ref C ∧ d = none ∧ PySem.W.exmOne K (.ref C) (.ref XD) = some true ∧ ExcC K C ∧ PySem.W.kitOne K (.ref C) (.ref XO) = some b ∧ Q (.bl b) H') H fun _ H' => Q (.bl false) H'
theorem evl_lam {K : PySem.W.Frag} {T : List (Addr × Str)} {ds : Env} {t : XK → TE} {C XD XO : Addr} {b : Bool} (hp : ds.all isP = true) (h : ∀ E : XK, EvX K (t E) ds (wZ (fun cls d _ H => E cls d H) C)) (hx : PySem.W.exmOne K (.ref C) (.ref XD) = some true) (cx : ExcC K C) (hk : PySem.W.kitOne K (.ref C) (.ref XO) = some b) :
    EvL K T (LamX.tLam T (TNo K XD XO) t) ds (.bl b) := fun σ H0 G H Q en hT q =>
  ⟨hT, fun H1 x1 t1 => h _ σ H1 (unT G) H1 _ (en.lam hp x1) fun G2 H2 g2 => ⟨C, b, rfl, rfl, hx, cx, hk, q H2 (x1.trans g2.ext) (t1.ext g2.h)⟩⟩
/-! ### k08: lists or tuples, all told -/
theorem PI.or {X : Cx} {tg e : Expr} {w1 w2 : TI} (h1 : PI X tg e w1) (h2 : PI X tg e w2) : PI X tg e (fun σ H R => w1 σ H R ∨ w2 σ H R) := ⟨fun pins s σ H R I h => by
  rcases h with h | h
  · exact h1.run pins s σ H R I h
  · exact h2.run pins s σ H R I h⟩
section
variable {K : PySem.W.Frag} {ds : Env}
theorem ei_orL {w1 w2 : TI} {xs : List D} (h : EvI K w1 ds xs) : EvI K (fun σ H R => w1 σ H R ∨ w2 σ H R) ds xs := fun σ H0 G H R e q => .inl (h σ H0 G H R e q)
theorem ei_orR {w1 w2 : TI} {xs : List D} (h : EvI K w2 ds xs) : EvI K (fun σ H R => w1 σ H R ∨ w2 σ H R) ds xs := fun σ H0 G H R e q => .inr (h σ H0 G H R e q)
theorem ev_isNI {ta tb : TE} {i : Int} (ha : EvS K ta ds (.p (I i))) (hb : EvS K tb ds (.p dN)) : EvS K (tOp (fun x y H Q => y = V.non ∧ Q (.bl (decide (x = V.non))) H) ta tb) ds (.p (B false)) := ev_op ha hb (rd_val fun H Q q => ⟨rfl, by rw [decide_eq_false (show ¬ V.int i = V.non from fun z => by cases z)]; exact q⟩)
theorem k_int_str : kitB "int" "str" = some false := by decide +kernel
theorem ev_isStrI {ta : TA} {i : Int} (h : EvA K ta ds [I i, .val (.ty "str")]) : EvS K (tCB (rIsi K) ta) ds (.p (B false)) := ev_isi h ⟨.int i, kit_ty k_int_str⟩
end
/-- whole numbers in lists and tuples, to the n-th level -/
def plainD : Nat → D → Bool
  | _, .val (.int _) => true
  | n + 1, .lst xs => decide (xs.length ≤ 1000) && xs.all (plainD n)
  | n + 1, .tup xs => decide (xs.length ≤ 1000) && xs.all (plainD n)
  | _, _ => false
theorem callee_none {P : Program} {w : World} {K : PySem.W.Frag} {mg : Str → Option Value} {base : Heap} {name : Str} {st : Stmt} {ps : List Str} (F : FunAt K mg name st)
    (hb : ∀ (kV doc pm : Value) (an : Option Addr) (cdv ct : Value) (us : List Value), us.length = ps.length → bindArgs (PySem.W.fnOf name name (defArgs st) (defBody st) (defScope st) .none kV doc pm an cdv ct) ⟨us, []⟩ = pure (ps.zip us)) : Callee P w K mg base name 0 ps (spS K fun _ _ => False) := by
  obtain ⟨f, fd, F, hm⟩ := F
  exact ⟨f, fd, ⟨fun vs H Q E h => by obtain ⟨_, _, _, _, _, z, _⟩ := h; exact z.elim, fun A outer s H args us vs Q E _ _ _ _ h => by obtain ⟨_, _, _, _, _, z, _⟩ := h; exact z.elim⟩, hm, F.kp, F.binds hb⟩
/-- the law, at a script, its def making lambdas in T -/
def PScriptL (as : List D) (v : V) : Prop := ∃ ns : List Int, as = [.fz (ns.map I)] ∧ ns.length ≤ 63 ∧ (∀ c ∈ ns, Bt 1048576 c) ∧ v = .bl true
theorem law_walkL {l : PySem.W.OpenLaw} {q : Program} {loose : List Str} {XP : (Str → Option Value) → Heap → Prop} {YP : World → Heap → Prop} {d : DefRec} {K : Params → PySem.W.Frag} {k : Nat} {x : Str} (y qn : Str) (hn : l.most = some 63) (hdf : d.params.defaults = [])
    (hr : Room k PySem.callerA) (hrec : ((recsOf q).any fun e => e.name == y) = true) (hY : ∀ (w : World) (h : Heap), YP w h → (K w.params).In h)
    (F : ∀ (w : World) (mg : Str → Option Value) (fa : Addr) (h : Heap), (K w.params).In h → h.Ns mainGlobals mg → mg d.name = some (.ref fa) →
      ∃ (fd : FuncData) (c P fo : Addr) (o : Obj) (fd2 : FuncData) (e : Value) (dd : Option Addr) (vs : Array Value) (sl : Array (Option Value)), mg y = some (.ref fo) ∧ (K w.params).lookup fo = some o ∧ o.data = .func fd2 ∧ fd2.code = .ref c ∧ (K w.params).lookup c = some ⟨e, dd, .fields vs, sl⟩ ∧ vs[11]? = some (.ref P) ∧ (K w.params).lookup P = none ∧
        (∀ (s : Shared) (u : Value), BindsTo s fd ⟨[u], []⟩ [(x, u)]) ∧ ∀ base : Heap, (K w.params).In base → base.Ns mainGlobals mg → LamX.TabB base mg c P → FnOk l.prog w (K w.params) mg base CX0 k fa fd [x] (spT (K w.params) [(P, qn)] PScriptL)) :
    PySem.W.WalkO q loose XP YP l.row.toRowW d [] (fun f vs => PySem.call f vs) := by
  refine Att.attach_callB hn hdf fun w s₀ s₁ mg mb fa o pm cd doc a vs ns G Y ho hd hcd hmg hobj hints hlen hbits hg => ?_
  have KX := hY w _ Y
  obtain ⟨fd, c, P, fo, o2, fd2, e, dd, vs2, sl, m1, k1, k2, k3, k4, k5, k6, hb, hF⟩ := F w mg fa _ KX G.T.g hmg
  have tab : PySem.W.CodeHd s₁.heap c P ∧ s₁.heap.get? P = some { cls := .none, data := .fields #[] } := by
    obtain ⟨dL, hm, hn1⟩ := List.any_eq_true.mp hrec
    have hn2 : dL.name = y := beq_iff_eq.mp hn1
    obtain ⟨a', o', fd', c', P', h1, h2, h3, h4, h5, h6⟩ := G.T.tab dL hm
    rw [hn2, m1] at h1
    cases h1
    have g1 := KX _ _ k1
    rw [g1] at h2
    cases h2
    rw [k2] at h3
    cases h3
    rw [k3] at h4
    cases h4
    have h6' := h6
    obtain ⟨⟨oc, vc, e1, _, e3, e4⟩, hP⟩ := h6'
    have g2 := KX _ _ k4
    rw [g2] at e1
    cases e1
    cases e3
    rw [k5] at e4
    cases e4
    exact ⟨PySem.W.CodeHd.of h5 h6, hP⟩
  refine LamX.law_callTs (cs := [(c, P)]) (sp := spT (K w.params) [(P, qn)] PScriptL) KX G.T.g G.T.b G.T.builtins G.T.nolimit hg (fun p hp => ?_) (fun p hp => ?_) (fun p hp => ?_) G.T.bmain hobj hints (Nat.le_trans hlen (by decide)) hr (fun base b1 b2 b3 => hF base b1 b2 (b3 _ (List.mem_singleton.mpr rfl))) hb (fun H hH hS => ?_) fun H e s' => fun z => z
  · rw [List.mem_singleton] at hp; subst hp; exact tab.2
  · rw [List.mem_singleton] at hp; subst hp; exact k6
  · rw [List.mem_singleton] at hp; subst hp; exact tab.1
  · refine ⟨H, [.fz (ns.map I)], .bl true, .refl _, .one (.fz hS (ints_ats ns)), ⟨ns, rfl, hlen, fun c hc => bits_bt (hbits c hc), rfl⟩, fun p hp => ?_, fun H' _ _ => rfl⟩
    rw [List.mem_singleton] at hp
    subst hp
    exact LamX.TabS.nil (hH _ (List.mem_singleton.mpr rfl))
end HM

/-! MthB -/
namespace HM
/-! ### told of written hands -/
theorem lt_same {h0 h : Hd} {p rest : List Hd} {f : Rat} {s : Nat} (e : h.1 - h0.1 = 0) (z : (h0.2 - h.2).num = 0) : loopT h0 p (h :: rest) f s = loopT h0 (p ++ [h]) rest f s := by
  rw [loopT, if_pos e, if_neg (by rw [z]; simp)]
theorem lt_nev {h0 h : Hd} {p rest : List Hd} {f : Rat} {s : Nat} (e : h.1 - h0.1 = 0) (z : (h0.2 - h.2).num ≠ 0) : loopT h0 p (h :: rest) f s = .never [0, (p.length : Int)] := by
  rw [loopT, if_pos e, if_pos z]
theorem lt_new {h0 h : Hd} {p rest : List Hd} {f f' : Rat} {n : Nat} (e : h.1 - h0.1 ≠ 0) (hf : (h0.2 - h.2) / ((h.1 - h0.1 : Int) : Rat) = f') (hn : (h.1 - h0.1).natAbs = n) : loopT h0 p (h :: rest) f 0 = loopT h0 (p ++ [h]) rest f' n := by
  rw [loopT, if_neg e, if_pos rfl, hf, hn]
theorem lt_no {h0 h : Hd} {p rest : List Hd} {f : Rat} {s : Nat} (e : h.1 - h0.1 ≠ 0) (hs : s ≠ 0) (z : (s : Int) / (Int.gcd s (h.1 - h0.1) : Int) * (h0.2 - h.2 - f * ((h.1 - h0.1 : Int) : Rat)).num % ((h0.2 - h.2 - f * ((h.1 - h0.1 : Int) : Rat)).den : Int) ≠ 0) : ∃ ks, loopT h0 p (h :: rest) f s = .never ks := by
  refine ⟨neverF h0 p h, ?_⟩
  rw [loopT, if_neg e, if_neg hs]
  have : broughtF f s (h.1 - h0.1) (h0.2 - h.2) = none := by
    unfold broughtF
    exact if_pos z
  rw [this]
theorem lt_yes {h0 h : Hd} {p rest : List Hd} {f : Rat} {s : Nat} (e : h.1 - h0.1 ≠ 0) (hs : s ≠ 0) (hw : Int.gcd s (h.1 - h0.1) = s) (z : (s : Int) / (s : Int) * (h0.2 - h.2 - f * ((h.1 - h0.1 : Int) : Rat)).num % ((h0.2 - h.2 - f * ((h.1 - h0.1 : Int) : Rat)).den : Int) = 0) : loopT h0 p (h :: rest) f s = loopT h0 (p ++ [h]) rest f s := by
  rw [loopT, if_neg e, if_neg hs]
  have : broughtF f s (h.1 - h0.1) (h0.2 - h.2) = some (f, s) := by
    unfold broughtF
    dsimp only
    rw [hw, if_neg (by rw [z]; simp), Int.ediv_self (by omega), Int.emod_one]
    have e0 : Rat.divInt 0 (s : Int) = 0 := Rat.zero_divInt _
    rw [e0, Rat.add_zero]
  rw [this]
theorem lt_end0 {h0 : Hd} {p : List Hd} {f : Rat} : loopT h0 p [] f 0 = .always := by rw [loopT, if_pos rfl]
theorem lt_end {h0 : Hd} {p : List Hd} {f q : Rat} {s : Nat} (hs : s ≠ 0) (e : fract (f * ((s : Int) : Rat)) / ((s : Int) : Rat) = q) : loopT h0 p [] f s = .at_ q s := by rw [loopT, if_neg hs, e]
def oneH : List Hd := [(1, 0), (0, Rat.divInt 1 4)]
def threeH : List Hd := [(0, 0), (2, 0), (4, Rat.divInt 1 2)]
def apartH : List Hd := [(2, 0), (2, Rat.divInt 1 2)]
def backH : List Hd := [(1, 0), (-1, 0)]
def fivesH : List Hd := [(5, 0), (2, 0), (-1, 0)]
theorem told_oneH : toldF oneH = .at_ (Rat.divInt 1 4) 1 := by
  unfold toldF oneH
  show loopT (1, 0) [] [(1, 0), (0, Rat.divInt 1 4)] 0 0 = _
  rw [lt_same (by decide) (by decide +kernel), lt_new (f' := Rat.divInt 1 4) (n := 1) (by decide) (by decide +kernel) (by decide), lt_end (q := Rat.divInt 1 4) (by decide) (by decide +kernel)]
theorem told_threeH : ∃ ks, toldF threeH = .never ks := by
  unfold toldF threeH
  show ∃ ks, loopT (0, 0) [] [(0, 0), (2, 0), (4, Rat.divInt 1 2)] 0 0 = .never ks
  rw [lt_same (by decide) (by decide +kernel), lt_new (f' := 0) (n := 2) (by decide) (by decide +kernel) (by decide)]
  exact lt_no (by decide) (by decide) (by decide +kernel)
theorem told_apartH : toldF apartH = .never [0, 1] := by
  unfold toldF apartH
  show loopT (2, 0) [] [(2, 0), (2, Rat.divInt 1 2)] 0 0 = _
  rw [lt_same (by decide) (by decide +kernel), lt_nev (by decide) (by decide +kernel)]
  rfl
theorem told_backH : toldF backH = .at_ 0 2 := by
  unfold toldF backH
  show loopT (1, 0) [] [(1, 0), (-1, 0)] 0 0 = _
  rw [lt_same (by decide) (by decide +kernel), lt_new (f' := 0) (n := 2) (by decide) (by decide +kernel) (by decide), lt_end (q := 0) (by decide) (by decide +kernel)]
theorem told_fivesH : toldF fivesH = .at_ 0 3 := by
  unfold toldF fivesH
  show loopT (5, 0) [] [(5, 0), (2, 0), (-1, 0)] 0 0 = _
  rw [lt_same (by decide) (by decide +kernel), lt_new (f' := 0) (n := 3) (by decide) (by decide +kernel) (by decide), lt_yes (by decide) (by decide) (by decide) (by decide +kernel), lt_end (q := 0) (by decide) (by decide +kernel)]
theorem told_none : toldF [] = .always := by
  unfold toldF
  exact lt_end0
theorem told_sole {r : Int} {q : Rat} : toldF [(r, q)] = .always := by
  unfold toldF
  show loopT (r, q) [] [(r, q)] 0 0 = _
  rw [lt_same (Int.sub_self _) (by show (q - q).num = 0; rw [Rat.sub_self]; rfl), lt_end0]
theorem told_twice {r : Int} {q : Rat} : toldF [(r, q), (r, q)] = .always := by
  unfold toldF
  show loopT (r, q) [] [(r, q), (r, q)] 0 0 = _
  rw [lt_same (Int.sub_self _) (by show (q - q).num = 0; rw [Rat.sub_self]; rfl), lt_same (Int.sub_self _) (by show (q - q).num = 0; rw [Rat.sub_self]; rfl), lt_end0]
end HM

namespace HM
open PySem L2
def topS (i : Nat) : Stmt := PySem.Challenge.pw_handsmeet_k08_whole_numbers.main.body.getD i (.Pass ⟨0, 0, 0, 0⟩)
local macro_rules | `(tactic| walk_at "ev") => `(tactic| first
  | (with_reducible exact ev_c)
  | ((with_reducible apply ev_var); exact rfl)
  | (with_reducible exact ea_nil)
  | (with_reducible exact ev_dnewK)
  | (with_reducible exact eo_none)
  | ((with_reducible apply hLen); exact rfl)
  | (with_reducible show Hyp _)
  | ((with_reducible apply ea_cons) <;> walk_at "ev")
  | ((with_reducible apply ev_add) <;> walk_at "ev")
  | ((with_reducible apply ev_sub) <;> walk_at "ev")
  | ((with_reducible apply ev_mul) <;> walk_at "ev")
  | ((with_reducible apply ev_div) <;> walk_at "ev")
  | ((with_reducible apply ev_mod) <;> walk_at "ev")
  | ((with_reducible apply ev_pow) <;> walk_at "ev")
  | ((with_reducible apply ev_neg) <;> walk_at "ev")
  | ((with_reducible apply ev_abs) <;> walk_at "ev")
  | ((with_reducible apply ev_max2) <;> walk_at "ev")
  | ((with_reducible apply ev_t0) <;> walk_at "ev")
  | ((with_reducible apply ev_t1) <;> walk_at "ev")
  | ((with_reducible apply ev_tup) <;> walk_at "ev")
  | ((with_reducible apply ev_lst) <;> walk_at "ev")
  | ((with_reducible apply ev_lstP) <;> walk_at "ev")
  | ((with_reducible apply ev_lt) <;> walk_at "ev")
  | ((with_reducible apply ev_le) <;> walk_at "ev")
  | ((with_reducible apply ev_gt) <;> walk_at "ev")
  | ((with_reducible apply ev_ge) <;> walk_at "ev")
  | ((with_reducible apply ev_eqI) <;> walk_at "ev")
  | ((with_reducible apply ev_neI) <;> walk_at "ev")
  | ((with_reducible apply et_test) <;> walk_at "ev")
  | ((with_reducible apply et_B) <;> walk_at "ev")
  | ((with_reducible apply et_not) <;> walk_at "ev")
  | ((with_reducible apply ev_lenL) <;> walk_at "ev")
  | ((with_reducible apply ev_lenT) <;> walk_at "ev")
  | ((with_reducible apply ev_lenF) <;> walk_at "ev")
  | ((with_reducible apply ev_notB) <;> walk_at "ev")
  | ((with_reducible apply ev_isInt) <;> walk_at "ev")
  | ((with_reducible apply ev_isBool) <;> walk_at "ev")
  | ((with_reducible apply ev_isTuple) <;> walk_at "ev")
  | ((with_reducible apply ev_isList) <;> walk_at "ev"))
local macro_rules | `(tactic| walk_at "nrm") => `(tactic| try dsimp only [List.map_cons, List.map_nil, List.length_cons, List.length_nil, List.cons_append, List.nil_append, List.replicate_succ, List.replicate_zero, List.set_cons_zero, List.set_cons_succ, Nat.reduceAdd, Nat.reduceSub])
variable {P : Program} {w : World} {K : PySem.W.Frag} {mg : Str → Option Value} {base : Heap}
/-! ### is_number -/
abbrev s_is_number : Stmt := topS 7
theorem sc_is_number : FnScope ["thing"] ["thing"] (defScope s_is_number) := ⟨rfl, rfl, rfl, by decide +kernel, rfl, by decide +kernel, by decide +kernel⟩

inductive PIsNumber : List D → S → Prop
  | mk {d : D} (h : bi 0 d = true) : PIsNumber [d] (.p (B (numD d)))
theorem ok_is_number (F : FunAt K mg "is_number" s_is_number) (b : Bl mg) : Callee P w K mg base "is_number" 1 ["thing"] (spS K PIsNumber) := by
  refine callee_mk F sc_is_number (fun _ _ _ _ _ _ us hl => match us, hl with | [_], _ => rfl) (by rintro _ _ ⟨⟩; rfl) (fun f cdv A outer sh H E as r hr hp => ?_)
  obtain ⟨h⟩ := hp
  refine ⟨_, (pss_one (ps_ret (pe_and (pe_callB (kIsi (K := K)) rfl b.isi_ bt_isi (pa_cons (pv 0) (pa_cons (pe_bltn (v := .ty "int") rfl b.int_ bt_int rfl) pa_nil))) (pe_one (pe_not (pe_callB (kIsi (K := K)) rfl b.isi_ bt_isi (pa_cons (pv 0) (pa_cons (pe_bltn (v := .ty "bool") rfl b.bool_ bt_bool rfl) pa_nil)))))))), ?_⟩
  try dsimp only [cxOf]
  refine sd_ret (ev_andB (by walk_at "ev" <;> exact h) fun _ => (by walk_at "ev" <;> exact h)) ?_
  rw [numD_eq h]
theorem ev_is_number {ds : Env} {ta : TA} {d : D} (h : EvA K ta ds [d]) (hb : Hyp (bi 0 d = true)) : EvS K (tCall (spS K PIsNumber) [] E0 ta) ds (.p (B (numD d))) := ev_call h ⟨hb⟩
local macro_rules | `(tactic| walk_at "ev") => `(tactic| ((with_reducible apply ev_is_number) <;> walk_at "ev"))
/-! ### common -/
abbrev s_common : Stmt := topS 8
theorem sc_common : FnScope ["one", "other"] ["one", "other"] (defScope s_common) := ⟨rfl, rfl, rfl, by decide +kernel, rfl, by decide +kernel, by decide +kernel⟩

inductive PCommon : List D → S → Prop
  | mk (a b : Int) : PCommon [I a, I b] (.p (I (Int.gcd a b)))
theorem ok_common (F : FunAt K mg "common" s_common) (b : Bl mg) : Callee P w K mg base "common" 1 ["one", "other"] (spS K PCommon) := by
  refine callee_mk F sc_common (fun _ _ _ _ _ _ us hl => match us, hl with | [_, _], _ => rfl) (by rintro _ _ ⟨⟩; rfl) (fun f cdv A outer sh H E as r hr hp => ?_)
  obtain ⟨x, y⟩ := hp
  refine ⟨_, (pss_cons (ps_par (i := 0) (j := 1) rfl sc_common.nd rfl rfl (by decide) rfl rfl (pa_cons (pe_callB call_abs rfl b.abs_ bt_abs (pa_cons (pv 0) pa_nil)) (pa_cons (pe_callB call_abs rfl b.abs_ bt_abs (pa_cons (pv 1) pa_nil)) pa_nil)) rfl)
      (pss_cons (ps_while PassesOwn.never (qNe (K := K) hr (pv 1) pe_int) (pss_one (ps_par (i := 0) (j := 1) rfl sc_common.nd rfl rfl (by decide) rfl rfl (pa_cons (pv 1) (pa_cons (pMod (pv 0) (pv 1)) pa_nil)) rfl)))
      (pss_one (ps_ret (pv 0))))), ?_⟩
  try dsimp only [cxOf]
  refine sd_seq (sd_par (a := I (x.natAbs : Int)) (b := I (y.natAbs : Int)) (by walk_at "ev") ?_)
  refine sd_seq (sd_while (fun ds => ∃ m n : Nat, ds = [some (.p (I m)), some (.p (I n))] ∧ Nat.gcd m n = Int.gcd x y) (fun ds => match ds with | [_, some (.p (.val (.int n)))] => n.natAbs | _ => 0) ⟨x.natAbs, y.natAbs, rfl, rfl⟩ ?_)
  rintro ds ⟨m, n, rfl, e⟩
  refine ⟨!decide ((n : Int) = 0), by walk_at "ev", fun h => ?_, fun h => ?_⟩
  · have hn : 0 < n := by
      simp at h
      omega
    refine sd_par (a := I n) (b := I ((m : Int) % (n : Int))) (by walk_at "ev" <;> (show (0 : Int) < n; omega)) ?_
    refine ⟨⟨n, m % n, rfl, ?_⟩, ?_⟩
    · rw [← e, Nat.gcd_comm m n, Nat.gcd_rec n m, Nat.gcd_comm]
    · show ((m : Int) % (n : Int)).natAbs < (n : Int).natAbs
      have := Nat.mod_lt m hn
      omega
  · have hn : n = 0 := by
      simp at h
      omega
    subst hn
    refine sd_ret (by walk_at "ev") ?_
    rw [← e, Nat.gcd_zero_right]
theorem ev_common {ds : Env} {ta : TA} {x y : Int} (h : EvA K ta ds [I x, I y]) : EvS K (tCall (spS K PCommon) [] E0 ta) ds (.p (I (Int.gcd x y))) := ev_call h ⟨x, y⟩
local macro_rules | `(tactic| walk_at "ev") => `(tactic| ((with_reducible apply ev_common) <;> walk_at "ev"))
/-! ### made -/
abbrev s_made : Stmt := topS 9
theorem sc_made : FnScope ["above", "below", "by"] ["above", "below"] (defScope s_made) := ⟨rfl, rfl, rfl, by decide +kernel, rfl, by decide +kernel, by decide +kernel⟩

inductive PMade : List D → S → Prop
  | mk {a b : Int} (h : 0 < b) (hb : Bt 9000 b) : PMade [I a, I b] (.p (fr (Rat.divInt a b)))
theorem ok_made (F : FunAt K mg "made" s_made) (b : Bl mg) (c_common : Callee P w K mg base "common" 1 ["one", "other"] (spS K PCommon)) : Callee P w K mg base "made" 2 ["above", "below"] (spS K PMade) := by
  refine callee_mk F sc_made (fun _ _ _ _ _ _ us hl => match us, hl with | [_, _], _ => rfl) (by rintro _ _ ⟨⟩; rfl) (fun f cdv A outer sh H E as r hr hp => ?_)
  cases hp with
  | @mk x y h hb =>
    have hg : 0 < Int.gcd x y := Nat.pos_of_ne_zero fun z => by rw [Int.gcd_eq_zero_iff] at z; omega
    have hb2 : Bt 9000 (Int.gcd x y : Int) := by
      have : Int.gcd x y ≤ y.natAbs := Nat.le_of_dvd (by omega) (Int.gcd_dvd_natAbs_right x y)
      unfold Bt at *
      omega
    have hc : CDivW x (Int.gcd x y : Int) := Bt.div (by omega) hb2 (by decide) (by decide)
    have hc' : CDivW y (Int.gcd x y : Int) := Bt.div (by omega) hb2 (by decide) (by decide)
    refine ⟨_, (pss_cons (ps_set (i := 2) sc_made.nd rfl (by first | exact Or.inl rfl | exact Or.inr rfl) (pe_fn c_common (hr.mono (by decide)) rfl (pa_cons (pv 0) (pa_cons (pv 1) pa_nil))))
      (pss_one (ps_ret (pe_tup (pa_cons (pDiv (pv 0) (pv 2)) (pa_cons (pDiv (pv 1) (pv 2)) pa_nil)))))), ?_⟩
    try dsimp only [cxOf]
    refine sd_seq (sd_set (ev_call (by walk_at "ev") (PCommon.mk x y)) ?_)
    refine sd_ret (by walk_at "ev" <;> assumption) ?_
    unfold fr
    rw [made_num h, made_den h]
theorem ev_made {ds : Env} {ta : TA} {x y : Int} (h : EvA K ta ds [I x, I y]) (hc : Hyp (0 < y ∧ Bt 9000 y)) : EvS K (tCall (spS K PMade) [] E0 ta) ds (.p (fr (Rat.divInt x y))) := ev_call h ⟨hc.1, hc.2⟩
local macro_rules | `(tactic| walk_at "ev") => `(tactic| ((with_reducible apply ev_made) <;> walk_at "ev"))
/-! ### is_fraction -/
abbrev s_is_fraction : Stmt := topS 10
theorem sc_is_fraction : FnScope ["thing", "one"] ["thing"] (defScope s_is_fraction) := ⟨rfl, rfl, rfl, by decide +kernel, rfl, by decide +kernel, by decide +kernel⟩

inductive PIsFraction : List D → S → Prop
  | mk {d : D} (h : bi 1 d = true) : PIsFraction [d] (.p (B (fracD d)))
theorem ok_is_fraction (F : FunAt K mg "is_fraction" s_is_fraction) (b : Bl mg) (c_is_number : Callee P w K mg base "is_number" 1 ["thing"] (spS K PIsNumber)) (c_common : Callee P w K mg base "common" 1 ["one", "other"] (spS K PCommon)) :
    Callee P w K mg base "is_fraction" 2 ["thing"] (spS K PIsFraction) := by
  refine callee_mk F sc_is_fraction (fun _ _ _ _ _ _ us hl => match us, hl with | [_], _ => rfl) (by rintro _ _ ⟨⟩; rfl) (fun f cdv A outer sh H E as r hr hp => ?_)
  cases hp with
  | @mk d h =>
  refine ⟨_, (pss_cons (ps_if (PW.pt (pw_or (pt_not (pt_val (pe_callB (kIsi (K := K)) rfl b.isi_ bt_isi (pa_cons (pv 0) (pa_cons (pe_bltn (v := .ty "tuple") rfl b.tuple_ bt_tuple rfl) pa_nil))))) (pw_or (qNe (K := K) hr (pe_callB (kLen (K := K)) rfl b.len_ bt_len (pa_cons (pv 0) pa_nil)) pe_int) (pw_or1 (pt_not (pt_val (pe_callB (kAll (K := K) rfl) rfl b.all_ bt_all (pa_cons (pe_lc (own := [("one", 1)]) (g := (gName 1)) rfl sc_is_fraction.nd (iT (K := K) (pv 0)) (blkOk_by (N := ["thing", "one"]) (sc := defScope s_is_fraction) (own := [("one", 1)]) (by decide +kernel)) (fun _ _ _ _ _ => (pg_name (i := 1) sc_is_fraction.nd rfl (by first | exact Or.inl rfl | exact Or.inr rfl))) (fun _ _ _ _ _ => pts_nil) (fun _ _ _ _ _ => (pe_fn c_is_number (hr.mono (by decide)) rfl (pa_cons (pv 1) pa_nil)))) pa_nil)))))))) (pss_one (ps_ret pe_bl)) pss_nil)
      (pss_one (ps_ret (pe_and (pGt (pIx (K := K) (pv 0) pe_int) pe_int) (pe_one (pEq (K := K) hr (pe_fn c_common (hr.mono (by decide)) rfl (pa_cons (pIx (K := K) (pv 0) pe_int) (pa_cons (pIx (K := K) (pv 0) pe_int) pa_nil))) pe_int)))))), ?_⟩
  try dsimp only [cxOf]
  have h0 : bi 0 d = true := bi_down h
  have sp : isT d = false ∨ ∃ xs, d = .tup xs := by cases d <;> first | exact .inr ⟨_, rfl⟩ | exact .inl rfl
  rcases sp with e | ⟨xs, rfl⟩
  · have hf : fracD d = false := by cases d <;> first | rfl | cases e
    rw [hf]
    refine sd_seq (sd_if (et_or (a := !isT d) (b := true) (by walk_at "ev" <;> exact h0) (fun z => by rw [e] at z; cases z)) (fun _ => sd_ret (by walk_at "ev") rfl) (fun z => by rw [e] at z; cases z))
  · by_cases hl : xs.length = 2
    · match xs, hl with
      | [x, y], _ =>
        have hxy : bi 0 x = true ∧ bi 0 y = true := by
          have h' : (bi 0 x && (bi 0 y && true)) = true := h
          rw [Bool.and_true, Bool.and_eq_true] at h'
          exact h'
        refine sd_seq (sd_if (et_or (a := false) (et_is (a := !isT (.tup [x, y])) (by walk_at "ev" <;> rfl) rfl) fun _ => et_or (a := false) (et_is (a := !decide ((([x, y] : List D).length : Int) = 2)) (by walk_at "ev") rfl) fun _ => et_not (et_B (ev_allM (l := [x, y]) (f := numD) (ea_cons (EvS.pure (ev_lcM (l := [x, y]) (fa := fun d => d) (ei_tup (ev_var rfl)) (hLen rfl) (by decide) fun z hz => sg_name (by
          walk_at "ev"
          rcases List.mem_cons.mp hz with rfl | hz
          · exact hxy.1
          · rcases List.mem_cons.mp hz with rfl | hz
            · exact hxy.2
            · cases hz))) ea_nil)))) (fun z => ?_) (fun z => ?_))
        · refine sd_ret (by walk_at "ev") ?_
          have : fracD (.tup [x, y]) = false := by
            unfold fracD
            split
            · rename_i q
              injection q with q
              injection q with q1 q2
              injection q2 with q2 _
              subst q1
              subst q2
              cases z
            · rfl
          rw [this]
        · have z' : (numD x && (numD y && true)) = true := by
            have : (!(numD x && (numD y && true))) = false := z
            simpa using this
          rw [Bool.and_true, Bool.and_eq_true] at z'
          obtain ⟨a, rfl⟩ := numD_int z'.1
          obtain ⟨c, rfl⟩ := numD_int z'.2
          refine sd_next ?_
          refine sd_ret (ev_andB (by walk_at "ev") fun _ => (by walk_at "ev")) ?_
          rfl
    · have hf : fracD (.tup xs) = false := by
        unfold fracD
        split
        · rename_i q
          injection q with q
          rw [q] at hl
          exact absurd rfl hl
        · rfl
      rw [hf]
      refine sd_seq (sd_if (et_or (a := false) (et_is (a := !isT (.tup xs)) (by walk_at "ev" <;> rfl) rfl) fun _ => et_or (a := true) (b := true) (et_is (a := !decide ((xs.length : Int) = 2)) (by walk_at "ev") (by simp; omega)) (fun z => by cases z)) (fun _ => sd_ret (by walk_at "ev") rfl) (fun z => by cases z))
theorem ev_is_fraction {ds : Env} {ta : TA} {d : D} (h : EvA K ta ds [d]) (hb : Hyp (bi 1 d = true)) : EvS K (tCall (spS K PIsFraction) [] E0 ta) ds (.p (B (fracD d))) := ev_call h ⟨hb⟩
theorem ev_is_fractionR {ds : Env} {ta : TA} {q : Rat} (h : EvA K ta ds [fr q]) : EvS K (tCall (spS K PIsFraction) [] E0 ta) ds (.p (B true)) := by rw [← fr_frac q]; exact ev_call h ⟨rfl⟩
local macro_rules | `(tactic| walk_at "ev") => `(tactic| ((with_reducible apply ev_is_fraction) <;> walk_at "ev"))
/-! ### plus, times, rest -/
theorem CM.big {i j : Int} {a b : Nat} (ha : i.natAbs < 2 ^ a) (hb : j.natAbs < 2 ^ b) (h : a + b ≤ 100000000) : CM i j := CM.of ha hb h
theorem den_pos (q : Rat) : (0 : Int) < q.den := by have := q.den_pos; omega
abbrev s_plus : Stmt := topS 11
theorem sc_plus : FnScope ["one", "other"] ["one", "other"] (defScope s_plus) := ⟨rfl, rfl, rfl, by decide +kernel, rfl, by decide +kernel, by decide +kernel⟩

inductive PPlus : List D → S → Prop
  | mk {p q : Rat} {m n : Nat} (hp : Bd m p) (hq : Bd n q) (h0 : 0 < m + n) (h : m + n ≤ 9000) : PPlus [fr p, fr q] (.p (fr (p + q)))
theorem ok_plus (F : FunAt K mg "plus" s_plus) (b : Bl mg) (c_made : Callee P w K mg base "made" 2 ["above", "below"] (spS K PMade)) : Callee P w K mg base "plus" 3 ["one", "other"] (spS K PPlus) := by
  refine callee_mk F sc_plus (fun _ _ _ _ _ _ us hl => match us, hl with | [_, _], _ => rfl) (by rintro _ _ ⟨⟩; rfl) (fun f cdv A outer sh H E as r hr hp => ?_)
  cases hp with
  | @mk p q m n hp hq h0 h =>
  refine ⟨_, (pss_one (ps_ret (pe_fn c_made (hr.mono (by decide)) rfl (pa_cons (pAdd (pMul (pIx (K := K) (pv 0) pe_int) (pIx (K := K) (pv 1) pe_int)) (pMul (pIx (K := K) (pv 1) pe_int) (pIx (K := K) (pv 0) pe_int))) (pa_cons (pMul (pIx (K := K) (pv 0) pe_int) (pIx (K := K) (pv 1) pe_int)) pa_nil))))), ?_⟩
  try dsimp only [cxOf]
  have hpn : p.num.natAbs < 2 ^ m := hp.nu
  have hqn : q.num.natAbs < 2 ^ n := hq.nu
  have hpd : (p.den : Int).natAbs < 2 ^ m := hp.de
  have hqd : (q.den : Int).natAbs < 2 ^ n := hq.de
  have hdd : (0 : Int) < (p.den : Int) * (q.den : Int) := Int.mul_pos (den_pos p) (den_pos q)
  have hdb : Bt 9000 ((p.den : Int) * (q.den : Int)) := (Bt.mul hpd hqd).mono h
  refine sd_ret (by
    walk_at "ev"
    · exact CM.of hpn hqd (by omega)
    · exact CM.of hqn hpd (by omega)
    · exact CM.of hpd hqd (by omega)
    · exact ⟨hdd, hdb⟩) ?_
  rw [plus_made]
theorem ev_plus {ds : Env} {ta : TA} {p q : Rat} (h : EvA K ta ds [fr p, fr q]) (hb : Hyp (∃ m n, Bd m p ∧ Bd n q ∧ 0 < m + n ∧ m + n ≤ 9000)) : EvS K (tCall (spS K PPlus) [] E0 ta) ds (.p (fr (p + q))) :=
  let ⟨_, _, a, b, c, d⟩ := hb; ev_call h ⟨a, b, c, d⟩
local macro_rules | `(tactic| walk_at "ev") => `(tactic| ((with_reducible apply ev_plus) <;> walk_at "ev"))
abbrev s_times : Stmt := topS 12
theorem sc_times : FnScope ["one", "number"] ["one", "number"] (defScope s_times) := ⟨rfl, rfl, rfl, by decide +kernel, rfl, by decide +kernel, by decide +kernel⟩

inductive PTimes : List D → S → Prop
  | mk {p : Rat} {k : Int} {m n : Nat} (hp : Bd m p) (hk : Bt n k) (h : m ≤ 9000) (hn : n ≤ 1000000) : PTimes [fr p, I k] (.p (fr (p * k)))
theorem ok_times (F : FunAt K mg "times" s_times) (b : Bl mg) (c_made : Callee P w K mg base "made" 2 ["above", "below"] (spS K PMade)) : Callee P w K mg base "times" 3 ["one", "number"] (spS K PTimes) := by
  refine callee_mk F sc_times (fun _ _ _ _ _ _ us hl => match us, hl with | [_, _], _ => rfl) (by rintro _ _ ⟨⟩; rfl) (fun f cdv A outer sh H E as r hr hp => ?_)
  cases hp with
  | @mk p k m n hp hk h hn =>
  refine ⟨_, (pss_one (ps_ret (pe_fn c_made (hr.mono (by decide)) rfl (pa_cons (pMul (pIx (K := K) (pv 0) pe_int) (pv 1)) (pa_cons (pIx (K := K) (pv 0) pe_int) pa_nil))))), ?_⟩
  try dsimp only [cxOf]
  have hpn : p.num.natAbs < 2 ^ m := hp.nu
  have hpd : (p.den : Int).natAbs < 2 ^ m := hp.de
  refine sd_ret (by
    walk_at "ev"
    · exact CM.of hpn hk (by omega)
    · exact ⟨den_pos p, Bt.mono hpd h⟩) ?_
  rw [times_made]
theorem ev_times {ds : Env} {ta : TA} {p : Rat} {k : Int} (h : EvA K ta ds [fr p, I k]) (hb : Hyp (∃ m n, Bd m p ∧ Bt n k ∧ m ≤ 9000 ∧ n ≤ 1000000)) : EvS K (tCall (spS K PTimes) [] E0 ta) ds (.p (fr (p * k))) :=
  let ⟨_, _, a, b, c, d⟩ := hb; ev_call h ⟨a, b, c, d⟩
local macro_rules | `(tactic| walk_at "ev") => `(tactic| ((with_reducible apply ev_times) <;> walk_at "ev"))
abbrev s_minus : Stmt := topS 13
theorem sc_minus : FnScope ["one", "other"] ["one", "other"] (defScope s_minus) := ⟨rfl, rfl, rfl, by decide +kernel, rfl, by decide +kernel, by decide +kernel⟩

inductive PMinus : List D → S → Prop
  | mk {p q : Rat} {m n : Nat} (hp : Bd m p) (hq : Bd n q) (h : m + n ≤ 8000) : PMinus [fr p, fr q] (.p (fr (p - q)))
theorem ok_minus (F : FunAt K mg "minus" s_minus) (b : Bl mg) (c_plus : Callee P w K mg base "plus" 3 ["one", "other"] (spS K PPlus)) (c_times : Callee P w K mg base "times" 3 ["one", "number"] (spS K PTimes)) : Callee P w K mg base "minus" 4 ["one", "other"] (spS K PMinus) := by
  refine callee_mk F sc_minus (fun _ _ _ _ _ _ us hl => match us, hl with | [_, _], _ => rfl) (by rintro _ _ ⟨⟩; rfl) (fun f cdv A outer sh H E as r hr hp => ?_)
  cases hp with
  | @mk p q m n hp hq h =>
  refine ⟨_, (pss_one (ps_ret (pe_fn c_plus (hr.mono (by decide)) rfl (pa_cons (pv 0) (pa_cons (pe_fn c_times (hr.mono (by decide)) rfl (pa_cons (pv 1) (pa_cons (pNeg pe_int) pa_nil))) pa_nil))))), ?_⟩
  try dsimp only [cxOf]
  have hk : Bt 2 (-1) := (by decide : (1 : Nat) < 4)
  refine sd_ret (by
    walk_at "ev"
    · exact ⟨n, 2, hq, hk, by omega, by omega⟩
    · exact ⟨m, n + 2, hp, hq.mulI hk, by omega, by omega⟩) ?_
  have e : p + q * ((-1 : Int) : Rat) = p - q := by
    have : ((-1 : Int) : Rat) = -1 := rfl
    rw [this]
    grind
  rw [e]
theorem ev_minus {ds : Env} {ta : TA} {p q : Rat} (h : EvA K ta ds [fr p, fr q]) (hb : Hyp (∃ m n, Bd m p ∧ Bd n q ∧ m + n ≤ 8000)) : EvS K (tCall (spS K PMinus) [] E0 ta) ds (.p (fr (p - q))) :=
  let ⟨_, _, a, b, c⟩ := hb; ev_call h ⟨a, b, c⟩
local macro_rules | `(tactic| walk_at "ev") => `(tactic| ((with_reducible apply ev_minus) <;> walk_at "ev"))
abbrev s_less : Stmt := topS 14
theorem sc_less : FnScope ["one", "other"] ["one", "other"] (defScope s_less) := ⟨rfl, rfl, rfl, by decide +kernel, rfl, by decide +kernel, by decide +kernel⟩

inductive PLess : List D → S → Prop
  | mk {p q : Rat} {m n : Nat} (hp : Bd m p) (hq : Bd n q) (h : m + n ≤ 100000) : PLess [fr p, fr q] (.p (B (decide (p < q))))
theorem ok_less (F : FunAt K mg "less" s_less) (b : Bl mg) : Callee P w K mg base "less" 1 ["one", "other"] (spS K PLess) := by
  refine callee_mk F sc_less (fun _ _ _ _ _ _ us hl => match us, hl with | [_, _], _ => rfl) (by rintro _ _ ⟨⟩; rfl) (fun f cdv A outer sh H E as r hr hp => ?_)
  cases hp with
  | @mk p q m n hp hq h =>
  refine ⟨_, (pss_one (ps_ret (pLt (pMul (pIx (K := K) (pv 0) pe_int) (pIx (K := K) (pv 1) pe_int)) (pMul (pIx (K := K) (pv 1) pe_int) (pIx (K := K) (pv 0) pe_int))))), ?_⟩
  try dsimp only [cxOf]
  refine sd_ret (by
    walk_at "ev"
    · exact CM.of (a := m) (b := n) hp.nu hq.de (by omega)
    · exact CM.of (a := n) (b := m) hq.nu hp.de (by omega)) ?_
  rw [decide_eq_decide.mpr (Rat.lt_iff p q)]
theorem ev_less {ds : Env} {ta : TA} {p q : Rat} (h : EvA K ta ds [fr p, fr q]) (hb : Hyp (∃ m n, Bd m p ∧ Bd n q ∧ m + n ≤ 100000)) : EvS K (tCall (spS K PLess) [] E0 ta) ds (.p (B (decide (p < q)))) :=
  let ⟨_, _, a, b, c⟩ := hb; ev_call h ⟨a, b, c⟩
local macro_rules | `(tactic| walk_at "ev") => `(tactic| ((with_reducible apply ev_less) <;> walk_at "ev"))
abbrev s_rest : Stmt := topS 15
theorem sc_rest : FnScope ["one"] ["one"] (defScope s_rest) := ⟨rfl, rfl, rfl, by decide +kernel, rfl, by decide +kernel, by decide +kernel⟩

inductive PRest : List D → S → Prop
  | mk (p : Rat) : PRest [fr p] (.p (fr (fract p)))
theorem ok_rest (F : FunAt K mg "rest" s_rest) (b : Bl mg) : Callee P w K mg base "rest" 1 ["one"] (spS K PRest) := by
  refine callee_mk F sc_rest (fun _ _ _ _ _ _ us hl => match us, hl with | [_], _ => rfl) (by rintro _ _ ⟨⟩; rfl) (fun f cdv A outer sh H E as r hr hp => ?_)
  obtain ⟨p⟩ := hp
  refine ⟨_, (pss_one (ps_ret (pe_tup (pa_cons (pMod (pIx (K := K) (pv 0) pe_int) (pIx (K := K) (pv 0) pe_int)) (pa_cons (pIx (K := K) (pv 0) pe_int) pa_nil))))), ?_⟩
  try dsimp only [cxOf]
  refine sd_ret (by
    walk_at "ev"
    · exact den_pos p) ?_
  unfold fr
  rw [fract_num, fract_den]
theorem ev_rest {ds : Env} {ta : TA} {p : Rat} (h : EvA K ta ds [fr p]) : EvS K (tCall (spS K PRest) [] E0 ta) ds (.p (fr (fract p))) := ev_call h ⟨p⟩
local macro_rules | `(tactic| walk_at "ev") => `(tactic| ((with_reducible apply ev_rest) <;> walk_at "ev"))

/-! ### is_part, is_hand -/
theorem fracD_pair {d : D} (h : fracD d = true) : ∃ a b, d = .tup [I a, I b] := by
  unfold fracD at h
  split at h
  · exact ⟨_, _, rfl⟩
  · cases h
theorem partD_no {d : D} (h : fracD d = false) : partD d = false := by
  unfold partD
  split
  · rename_i a b
    have h' : (decide (0 < b) && decide ((Int.gcd a b : Int) = 1)) = false := h
    rw [h']
    rfl
  · rfl
abbrev s_is_part : Stmt := topS 17
theorem sc_is_part : FnScope ["thing"] ["thing"] (defScope s_is_part) := ⟨rfl, rfl, rfl, by decide +kernel, rfl, by decide +kernel, by decide +kernel⟩

inductive PIsPart : List D → S → Prop
  | mk {d : D} (h : bi 1 d = true) : PIsPart [d] (.p (B (partD d)))
theorem ok_is_part (F : FunAt K mg "is_part" s_is_part) (b : Bl mg) (c_is_fraction : Callee P w K mg base "is_fraction" 2 ["thing"] (spS K PIsFraction)) : Callee P w K mg base "is_part" 3 ["thing"] (spS K PIsPart) := by
  refine callee_mk F sc_is_part (fun _ _ _ _ _ _ us hl => match us, hl with | [_], _ => rfl) (by rintro _ _ ⟨⟩; rfl) (fun f cdv A outer sh H E as r hr hp => ?_)
  cases hp with
  | @mk d h =>
  refine ⟨_, (pss_one (ps_ret (pe_and (pe_fn c_is_fraction (hr.mono (by decide)) rfl (pa_cons (pv 0) pa_nil)) (pe_one (pe_chain op_le op_lt pe_int (pIx (K := K) (pv 0) pe_int) (pIx (K := K) (pv 0) pe_int)))))), ?_⟩
  try dsimp only [cxOf]
  refine sd_ret (s := .p (B (partD d))) (ev_andV (a := fracD d) (by walk_at "ev" <;> exact h) (fun e => ?_) (fun e => by rw [partD_no e])) rfl
  obtain ⟨a, c, rfl⟩ := fracD_pair e
  have e' : (decide (0 < c) && decide ((Int.gcd a c : Int) = 1)) = true := e
  refine ev_is (ev_chain (i := 0) (j := a) (k := c) (by walk_at "ev") (by walk_at "ev") fun _ => (by walk_at "ev")) ?_
  show _ = S.p (B ((decide (0 < c) && decide ((Int.gcd a c : Int) = 1)) && (decide (0 ≤ a) && decide (a < c))))
  rw [e']
  rfl
theorem ev_is_part {ds : Env} {ta : TA} {d : D} (h : EvA K ta ds [d]) (hb : Hyp (bi 1 d = true)) : EvS K (tCall (spS K PIsPart) [] E0 ta) ds (.p (B (partD d))) := ev_call h ⟨hb⟩
local macro_rules | `(tactic| walk_at "ev") => `(tactic| ((with_reducible apply ev_is_part) <;> walk_at "ev"))
abbrev s_is_hand : Stmt := topS 18
theorem sc_is_hand : FnScope ["thing"] ["thing"] (defScope s_is_hand) := ⟨rfl, rfl, rfl, by decide +kernel, rfl, by decide +kernel, by decide +kernel⟩

inductive PIsHand : List D → S → Prop
  | mk {d : D} (h : bi 2 d = true) : PIsHand [d] (.p (B (handD d)))
theorem ok_is_hand (F : FunAt K mg "is_hand" s_is_hand) (b : Bl mg) (c_is_number : Callee P w K mg base "is_number" 1 ["thing"] (spS K PIsNumber)) (c_is_part : Callee P w K mg base "is_part" 3 ["thing"] (spS K PIsPart)) :
    Callee P w K mg base "is_hand" 4 ["thing"] (spS K PIsHand) := by
  refine callee_mk F sc_is_hand (fun _ _ _ _ _ _ us hl => match us, hl with | [_], _ => rfl) (by rintro _ _ ⟨⟩; rfl) (fun f cdv A outer sh H E as r hr hp => ?_)
  cases hp with
  | @mk d h =>
  refine ⟨_, (pss_one (ps_ret (pe_and (pe_callB (kIsi (K := K)) rfl b.isi_ bt_isi (pa_cons (pv 0) (pa_cons (pe_bltn (v := .ty "tuple") rfl b.tuple_ bt_tuple rfl) pa_nil))) (pe_and (pEq (K := K) hr (pe_callB (kLen (K := K)) rfl b.len_ bt_len (pa_cons (pv 0) pa_nil)) pe_int) (pe_and (pe_fn c_is_number (hr.mono (by decide)) rfl (pa_cons (pIx (K := K) (pv 0) pe_int) pa_nil)) (pe_one (pe_fn c_is_part (hr.mono (by decide)) rfl (pa_cons (pIx (K := K) (pv 0) pe_int) pa_nil)))))))), ?_⟩
  try dsimp only [cxOf]
  have h0 : bi 0 d = true := bi_down h
  refine sd_ret (s := .p (B (handD d))) (ev_andV (a := isT d) (by walk_at "ev" <;> exact h0) (fun e => ?_) (fun e => ?_)) rfl
  · obtain ⟨xs, rfl⟩ : ∃ xs, d = .tup xs := by cases d <;> first | exact ⟨_, rfl⟩ | cases e
    refine ev_andV (a := decide ((xs.length : Int) = 2)) (by walk_at "ev") (fun e2 => ?_) (fun e2 => ?_)
    · have hl : xs.length = 2 := by
        have := of_decide_eq_true e2
        omega
      match xs, hl with
      | [x, y], _ =>
        have hxy : bi 1 x = true ∧ bi 1 y = true := by
          have h' : (bi 1 x && (bi 1 y && true)) = true := h
          rw [Bool.and_true, Bool.and_eq_true] at h'
          exact h'
        refine ev_andV (a := numD x) (by walk_at "ev" <;> exact bi_down hxy.1) (fun e3 => ev_is (by walk_at "ev" <;> exact hxy.2) ?_) (fun e3 => ?_)
        · show _ = S.p (B (numD x && partD y))
          rw [e3]
          rfl
        · show S.p (B (numD x && partD y)) = _
          rw [e3]
          rfl
    · have : handD (.tup xs) = false := by
        unfold handD
        split
        · rename_i q
          injection q with q
          rw [q] at e2
          cases e2
        · rfl
      rw [this]
  · have : handD d = false := by cases d <;> first | rfl | cases e
    rw [this]
theorem ev_is_hand {ds : Env} {ta : TA} {d : D} (h : EvA K ta ds [d]) (hb : Hyp (bi 2 d = true)) : EvS K (tCall (spS K PIsHand) [] E0 ta) ds (.p (B (handD d))) := ev_call h ⟨hb⟩
local macro_rules | `(tactic| walk_at "ev") => `(tactic| ((with_reducible apply ev_is_hand) <;> walk_at "ev"))
/-! ### asked_hands, asked_time: of what is due -/
abbrev s_asked_hands : Stmt := topS 19
theorem sc_asked_hands : FnScope ["hands", "hand"] ["hands"] (defScope s_asked_hands) := ⟨rfl, rfl, rfl, by decide +kernel, rfl, by decide +kernel, by decide +kernel⟩

inductive PAskedHands : List D → S → Prop
  | mk {l : List (Int × Rat)} (h : HsOk l) : PAskedHands [hs l] (.p dN)
theorem ok_asked_hands (F : FunAt K mg "asked_hands" s_asked_hands) (b : Bl mg) (c_is_hand : Callee P w K mg base "is_hand" 4 ["thing"] (spS K PIsHand)) : Callee P w K mg base "asked_hands" 5 ["hands"] (spS K PAskedHands) := by
  refine callee_mk F sc_asked_hands (fun _ _ _ _ _ _ us hl => match us, hl with | [_], _ => rfl) (by rintro _ _ ⟨⟩; rfl) (fun f cdv A outer sh H E as r hr hp => ?_)
  cases hp with
  | @mk l h =>
  refine ⟨_, (pss_one (ps_if (PW.pt (pw_or (pt_not (pt_val (pe_callB (kIsi (K := K)) rfl b.isi_ bt_isi (pa_cons (pv 0) (pa_cons (pe_bltn (v := .ty "list") rfl b.list_ bt_list rfl) pa_nil))))) (pw_or1 (pt_not (pt_val (pe_callB (kAll (K := K) rfl) rfl b.all_ bt_all (pa_cons (pe_lc (own := [("hand", 1)]) (g := (gName 1)) rfl sc_asked_hands.nd (iL (K := K) (pv 0)) (blkOk_by (N := ["hands", "hand"]) (sc := defScope s_asked_hands) (own := [("hand", 1)]) (by decide +kernel)) (fun _ _ _ _ _ => (pg_name (i := 1) sc_asked_hands.nd rfl (by first | exact Or.inl rfl | exact Or.inr rfl))) (fun _ _ _ _ _ => pts_nil) (fun _ _ _ _ _ => (pe_fn c_is_hand (hr.mono (by decide)) rfl (pa_cons (pv 1) pa_nil)))) pa_nil))))))) (pss_one ps_never) pss_nil)), ?_⟩
  try dsimp only [cxOf]
  have ha : l.all (fun x => handD (hd x)) = true := List.all_eq_true.mpr fun x hx => hd_hand (h.all x hx).lo (h.all x hx).hi
  refine sd_if (b := false) (et_is (et_or (a := !isL (hs l)) (b := !l.all fun x => handD (hd x)) (by walk_at "ev" <;> rfl) fun _ => et_not (et_B (ev_allM (ea_cons (EvS.pure (ev_lcM (fa := hd) (ei_list (ev_var rfl)) (Nat.le_trans h.len (by decide)) (by decide) fun x hx => sg_name (by walk_at "ev" <;> rfl))) ea_nil)))) ?_) (fun z => by cases z) (fun _ => sd_next rfl)
  rw [ha]
  rfl
theorem ev_asked_hands {ds : Env} {ta : TA} {l : List (Int × Rat)} (h : EvA K ta ds [hs l]) (hb : Hyp (HsOk l)) : EvS K (tCall (spS K PAskedHands) [] E0 ta) ds (.p dN) := ev_call h ⟨hb⟩
local macro_rules | `(tactic| walk_at "ev") => `(tactic| ((with_reducible apply ev_asked_hands) <;> walk_at "ev"))
abbrev s_asked_time : Stmt := topS 20
theorem sc_asked_time : FnScope ["time"] ["time"] (defScope s_asked_time) := ⟨rfl, rfl, rfl, by decide +kernel, rfl, by decide +kernel, by decide +kernel⟩

inductive PAskedTime : List D → S → Prop
  | mk (q : Rat) : PAskedTime [fr q] (.p dN)
theorem ok_asked_time (F : FunAt K mg "asked_time" s_asked_time) (b : Bl mg) (c_is_fraction : Callee P w K mg base "is_fraction" 2 ["thing"] (spS K PIsFraction)) : Callee P w K mg base "asked_time" 3 ["time"] (spS K PAskedTime) := by
  refine callee_mk F sc_asked_time (fun _ _ _ _ _ _ us hl => match us, hl with | [_], _ => rfl) (by rintro _ _ ⟨⟩; rfl) (fun f cdv A outer sh H E as r hr hp => ?_)
  obtain ⟨q⟩ := hp
  refine ⟨_, (pss_one (ps_if (pt_not (pt_val (pe_fn c_is_fraction (hr.mono (by decide)) rfl (pa_cons (pv 0) pa_nil)))) (pss_one ps_never) pss_nil)), ?_⟩
  try dsimp only [cxOf]
  exact sd_if (b := false) (et_is (et_not (a := true) (et_B (ev_is_fractionR (q := q) (by walk_at "ev")))) rfl) (fun z => by cases z) (fun _ => sd_next rfl)
theorem ev_asked_time {ds : Env} {ta : TA} {q : Rat} (h : EvA K ta ds [fr q]) : EvS K (tCall (spS K PAskedTime) [] E0 ta) ds (.p dN) := ev_call h ⟨q⟩
local macro_rules | `(tactic| walk_at "ev") => `(tactic| ((with_reducible apply ev_asked_time) <;> walk_at "ev"))
abbrev s_asked_hand : Stmt := topS 21
theorem sc_asked_hand : FnScope ["hands", "which"] ["hands", "which"] (defScope s_asked_hand) := ⟨rfl, rfl, rfl, by decide +kernel, rfl, by decide +kernel, by decide +kernel⟩

inductive PAskedHand : List D → S → Prop
  | mk {l : List (Int × Rat)} {k : Nat} (h : k < l.length) : PAskedHand [hs l, I (k : Int)] (.p dN)
theorem ok_asked_hand (F : FunAt K mg "asked_hand" s_asked_hand) (b : Bl mg) (c_is_number : Callee P w K mg base "is_number" 1 ["thing"] (spS K PIsNumber)) : Callee P w K mg base "asked_hand" 2 ["hands", "which"] (spS K PAskedHand) := by
  refine callee_mk F sc_asked_hand (fun _ _ _ _ _ _ us hl => match us, hl with | [_, _], _ => rfl) (by rintro _ _ ⟨⟩; rfl) (fun f cdv A outer sh H E as r hr hp => ?_)
  cases hp with
  | @mk l k h =>
  refine ⟨_, (pss_one (ps_if (PW.pt (pw_or (pt_not (pt_val (pe_fn c_is_number (hr.mono (by decide)) rfl (pa_cons (pv 1) pa_nil)))) (pw_or1 (pt_not (pt_chain op_le op_lt pe_int (pv 1) (pe_callB (kLen (K := K)) rfl b.len_ bt_len (pa_cons (pv 0) pa_nil))))))) (pss_one ps_never) pss_nil)), ?_⟩
  try dsimp only [cxOf]
  refine sd_if (b := false) (et_is (et_or (a := !numD (I (k : Int))) (b := !(decide ((0 : Int) ≤ (k : Int)) && decide ((k : Int) < ((l.map hd).length : Int)))) (by walk_at "ev" <;> rfl) fun _ => et_not (et_test (ev_chain (by walk_at "ev") (by walk_at "ev") fun _ => (by walk_at "ev")))) ?_) (fun z => by cases z) (fun _ => sd_next rfl)
  rw [List.length_map, decide_eq_true (show (0 : Int) ≤ (k : Int) by omega), decide_eq_true (show (k : Int) < (l.length : Int) by omega)]
  rfl
theorem ev_asked_hand {ds : Env} {ta : TA} {l : List (Int × Rat)} {k : Nat} (h : EvA K ta ds [hs l, I (k : Int)]) (hb : Hyp (k < l.length)) : EvS K (tCall (spS K PAskedHand) [] E0 ta) ds (.p dN) := ev_call h ⟨hb⟩
local macro_rules | `(tactic| walk_at "ev") => `(tactic| ((with_reducible apply ev_asked_hand) <;> walk_at "ev"))
/-! ### places -/
abbrev s_place_of : Stmt := topS 22
theorem sc_place_of : FnScope ["hand", "time"] ["hand", "time"] (defScope s_place_of) := ⟨rfl, rfl, rfl, by decide +kernel, rfl, by decide +kernel, by decide +kernel⟩

inductive PPlaceOf : List D → S → Prop
  | mk {h : Int × Rat} {t : Rat} (hs : Bd 200 h.2) (hr : Bt 100 h.1) (ht : Bd 1000 t) : PPlaceOf [hd h, fr t] (.p (fr (plc h t)))
theorem ok_place_of (F : FunAt K mg "place_of" s_place_of) (b : Bl mg) (c_rest : Callee P w K mg base "rest" 1 ["one"] (spS K PRest)) (c_plus : Callee P w K mg base "plus" 3 ["one", "other"] (spS K PPlus)) (c_times : Callee P w K mg base "times" 3 ["one", "number"] (spS K PTimes)) :
    Callee P w K mg base "place_of" 4 ["hand", "time"] (spS K PPlaceOf) := by
  refine callee_mk F sc_place_of (fun _ _ _ _ _ _ us hl => match us, hl with | [_, _], _ => rfl) (by rintro _ _ ⟨⟩; rfl) (fun f cdv A outer sh H E as r hr hp => ?_)
  cases hp with
  | @mk h t hs hr' ht =>
  refine ⟨_, (pss_one (ps_ret (pe_fn c_rest (hr.mono (by decide)) rfl (pa_cons (pe_fn c_plus (hr.mono (by decide)) rfl (pa_cons (pIx (K := K) (pv 0) pe_int) (pa_cons (pe_fn c_times (hr.mono (by decide)) rfl (pa_cons (pv 1) (pa_cons (pIx (K := K) (pv 0) pe_int) pa_nil))) pa_nil))) pa_nil)))), ?_⟩
  try dsimp only [cxOf]
  refine sd_ret (by
    walk_at "ev"
    · exact ⟨1000, 100, ht, hr', by decide, by decide⟩
    · exact ⟨200, 1100, hs, ht.mulI hr', by decide, by decide⟩) ?_
  rfl
theorem ev_place_of {ds : Env} {ta : TA} {h : Int × Rat} {t : Rat} (e : EvA K ta ds [hd h, fr t]) (hb : Hyp (Bd 200 h.2 ∧ Bt 100 h.1 ∧ Bd 1000 t)) : EvS K (tCall (spS K PPlaceOf) [] E0 ta) ds (.p (fr (plc h t))) := ev_call e ⟨hb.1, hb.2.1, hb.2.2⟩
local macro_rules | `(tactic| walk_at "ev") => `(tactic| ((with_reducible apply ev_place_of) <;> walk_at "ev"))
abbrev s_places : Stmt := topS 23
theorem sc_places : FnScope ["hands", "time", "hand"] ["hands", "time"] (defScope s_places) := ⟨rfl, rfl, rfl, by decide +kernel, rfl, by decide +kernel, by decide +kernel⟩

inductive PPlaces : List D → S → Prop
  | mk {l : List (Int × Rat)} {t : Rat} (h : HsOk l) (ht : Bd 1000 t) : PPlaces [hs l, fr t] (.o (l.map fun h => fr (plc h t)))
theorem ok_places (F : FunAt K mg "places" s_places) (b : Bl mg) (c_asked_hands : Callee P w K mg base "asked_hands" 5 ["hands"] (spS K PAskedHands)) (c_asked_time : Callee P w K mg base "asked_time" 3 ["time"] (spS K PAskedTime)) (c_place_of : Callee P w K mg base "place_of" 4 ["hand", "time"] (spS K PPlaceOf)) :
    Callee P w K mg base "places" 6 ["hands", "time"] (spS K PPlaces) := by
  refine callee_mk F sc_places (fun _ _ _ _ _ _ us hl => match us, hl with | [_, _], _ => rfl) (by rintro _ _ ⟨⟩; rfl) (fun f cdv A outer sh H E as r hr hp => ?_)
  cases hp with
  | @mk l t h ht =>
  refine ⟨_, (pss_cons (ps_expr (pe_fn c_asked_hands (hr.mono (by decide)) rfl (pa_cons (pv 0) pa_nil)))
      (pss_cons (ps_expr (pe_fn c_asked_time (hr.mono (by decide)) rfl (pa_cons (pv 1) pa_nil)))
      (pss_one (ps_ret (pe_lc (own := [("hand", 2)]) (g := (gName 2)) rfl sc_places.nd (iL (K := K) (pv 0)) (blkOk_by (N := ["hands", "time", "hand"]) (sc := defScope s_places) (own := [("hand", 2)]) (by decide +kernel)) (fun _ _ _ _ _ => (pg_name (i := 2) sc_places.nd rfl (by first | exact Or.inl rfl | exact Or.inr rfl))) (fun _ _ _ _ _ => pts_nil) (fun _ _ _ _ _ => (pe_fn c_place_of (hr.mono (by decide)) rfl (pa_cons (pv 2) (pa_cons (pv 1) pa_nil))))))))), ?_⟩
  try dsimp only [cxOf]
  refine sd_seq (sd_drop (by walk_at "ev" <;> exact h) (sd_seq (sd_drop (by walk_at "ev") ?_)))
  refine sd_ret (ev_lcM (l := l) (fa := hd) (fb := fun h => fr (plc h t)) (ei_list (ev_var rfl)) (Nat.le_trans h.len (by decide)) (by decide) fun x hx => sg_name (by walk_at "ev" <;> exact ⟨(h.all x hx).bs, (h.all x hx).br, ht⟩)) rfl
theorem ev_places {ds : Env} {ta : TA} {l : List (Int × Rat)} {t : Rat} (e : EvA K ta ds [hs l, fr t]) (hb : Hyp (HsOk l ∧ Bd 1000 t)) : EvS K (tCall (spS K PPlaces) [] E0 ta) ds (.o (l.map fun h => fr (plc h t))) := ev_call e ⟨hb.1, hb.2⟩
local macro_rules | `(tactic| walk_at "ev") => `(tactic| ((with_reducible apply ev_places) <;> walk_at "ev"))
abbrev s_later : Stmt := topS 28
theorem sc_later : FnScope ["hands", "time", "hand"] ["hands", "time"] (defScope s_later) := ⟨rfl, rfl, rfl, by decide +kernel, rfl, by decide +kernel, by decide +kernel⟩

inductive PLater : List D → S → Prop
  | mk {l : List (Int × Rat)} {t : Rat} (h : HsOk l) (ht : Bd 1000 t) : PLater [hs l, fr t] (.o ((l.map fun h => (h.1, plc h t)).map hd))
theorem ok_later (F : FunAt K mg "later" s_later) (b : Bl mg) (c_asked_hands : Callee P w K mg base "asked_hands" 5 ["hands"] (spS K PAskedHands)) (c_asked_time : Callee P w K mg base "asked_time" 3 ["time"] (spS K PAskedTime)) (c_place_of : Callee P w K mg base "place_of" 4 ["hand", "time"] (spS K PPlaceOf)) :
    Callee P w K mg base "later" 6 ["hands", "time"] (spS K PLater) := by
  refine callee_mk F sc_later (fun _ _ _ _ _ _ us hl => match us, hl with | [_, _], _ => rfl) (by rintro _ _ ⟨⟩; rfl) (fun f cdv A outer sh H E as r hr hp => ?_)
  cases hp with
  | @mk l t h ht =>
  refine ⟨_, (pss_cons (ps_expr (pe_fn c_asked_hands (hr.mono (by decide)) rfl (pa_cons (pv 0) pa_nil)))
      (pss_cons (ps_expr (pe_fn c_asked_time (hr.mono (by decide)) rfl (pa_cons (pv 1) pa_nil)))
      (pss_one (ps_ret (pe_lc (own := [("hand", 2)]) (g := (gName 2)) rfl sc_later.nd (iL (K := K) (pv 0)) (blkOk_by (N := ["hands", "time", "hand"]) (sc := defScope s_later) (own := [("hand", 2)]) (by decide +kernel)) (fun _ _ _ _ _ => (pg_name (i := 2) sc_later.nd rfl (by first | exact Or.inl rfl | exact Or.inr rfl))) (fun _ _ _ _ _ => pts_nil) (fun _ _ _ _ _ => (pe_tup (pa_cons (pIx (K := K) (pv 2) pe_int) (pa_cons (pe_fn c_place_of (hr.mono (by decide)) rfl (pa_cons (pv 2) (pa_cons (pv 1) pa_nil))) pa_nil))))))))), ?_⟩
  try dsimp only [cxOf]
  refine sd_seq (sd_drop (by walk_at "ev" <;> exact h) (sd_seq (sd_drop (by walk_at "ev") ?_)))
  refine sd_ret (ev_lcM (l := l) (fa := hd) (fb := fun h => hd (h.1, plc h t)) (ei_list (ev_var rfl)) (Nat.le_trans h.len (by decide)) (by decide) fun x hx => sg_name (by walk_at "ev" <;> exact ⟨(h.all x hx).bs, (h.all x hx).br, ht⟩)) ?_
  rw [List.map_map]
  rfl
theorem ev_later {ds : Env} {ta : TA} {l : List (Int × Rat)} {t : Rat} (e : EvA K ta ds [hs l, fr t]) (hb : Hyp (HsOk l ∧ Bd 1000 t)) : EvS K (tCall (spS K PLater) [] E0 ta) ds (.o ((l.map fun h => (h.1, plc h t)).map hd)) := ev_call e ⟨hb.1, hb.2⟩
local macro_rules | `(tactic| walk_at "ev") => `(tactic| ((with_reducible apply ev_later) <;> walk_at "ev"))
abbrev s_turned : Stmt := topS 25
theorem sc_turned : FnScope ["hands", "part", "rate", "start"] ["hands", "part"] (defScope s_turned) := ⟨rfl, rfl, rfl, by decide +kernel, rfl, by decide +kernel, by decide +kernel⟩

inductive PTurned : List D → S → Prop
  | mk {l : List (Int × Rat)} {t : Rat} (h : HsOk l) (ht : Bd 1000 t) : PTurned [hs l, fr t] (.o ((l.map fun h => (h.1, fract (h.2 + t))).map hd))
theorem ok_turned (F : FunAt K mg "turned" s_turned) (b : Bl mg) (c_asked_hands : Callee P w K mg base "asked_hands" 5 ["hands"] (spS K PAskedHands)) (c_is_fraction : Callee P w K mg base "is_fraction" 2 ["thing"] (spS K PIsFraction)) (c_plus : Callee P w K mg base "plus" 3 ["one", "other"] (spS K PPlus)) (c_rest : Callee P w K mg base "rest" 1 ["one"] (spS K PRest)) :
    Callee P w K mg base "turned" 6 ["hands", "part"] (spS K PTurned) := by
  refine callee_mk F sc_turned (fun _ _ _ _ _ _ us hl => match us, hl with | [_, _], _ => rfl) (by rintro _ _ ⟨⟩; rfl) (fun f cdv A outer sh H E as r hr hp => ?_)
  cases hp with
  | @mk l t h ht =>
  refine ⟨_, (pss_cons (ps_expr (pe_fn c_asked_hands (hr.mono (by decide)) rfl (pa_cons (pv 0) pa_nil)))
      (pss_cons (ps_if (pt_not (pt_val (pe_fn c_is_fraction (hr.mono (by decide)) rfl (pa_cons (pv 1) pa_nil)))) (pss_one ps_never) pss_nil)
      (pss_one (ps_ret (pe_lc (own := [("rate", 2), ("start", 3)]) (g := (gTup K 2 (gCons (gName 2) (gCons (gName 3) gNil)))) rfl sc_turned.nd (iL (K := K) (pv 0)) (blkOk_by (N := ["hands", "part", "rate", "start"]) (sc := defScope s_turned) (own := [("rate", 2), ("start", 3)]) (by decide +kernel)) (fun _ _ _ _ _ => (gT (K := K) (n := 2) rfl (pgs_cons (pg_name (i := 2) sc_turned.nd rfl (by first | exact Or.inl rfl | exact Or.inr rfl)) (pgs_cons (pg_name (i := 3) sc_turned.nd rfl (by first | exact Or.inl rfl | exact Or.inr rfl)) pgs_nil)))) (fun _ _ _ _ _ => pts_nil) (fun _ _ _ _ _ => (pe_tup (pa_cons (pv 2) (pa_cons (pe_fn c_rest (hr.mono (by decide)) rfl (pa_cons (pe_fn c_plus (hr.mono (by decide)) rfl (pa_cons (pv 3) (pa_cons (pv 1) pa_nil))) pa_nil)) pa_nil))))))))), ?_⟩
  try dsimp only [cxOf]
  refine sd_seq (sd_drop (by walk_at "ev" <;> exact h) (sd_seq (sd_if (b := false) (et_is (et_not (a := true) (et_B (ev_is_fractionR (q := t) (by walk_at "ev")))) rfl) (fun z => by cases z) (fun _ => sd_next ?_))))
  refine sd_ret (ev_lcM (l := l) (fa := hd) (fb := fun h => hd (h.1, fract (h.2 + t))) (ei_list (ev_var rfl)) (Nat.le_trans h.len (by decide)) (by decide) fun x hx => sg_pair (by walk_at "ev" <;> exact ⟨200, 1000, (h.all x hx).bs, ht, by decide, by decide⟩)) ?_
  rw [List.map_map]
  rfl
theorem ev_turned {ds : Env} {ta : TA} {l : List (Int × Rat)} {t : Rat} (e : EvA K ta ds [hs l, fr t]) (hb : Hyp (HsOk l ∧ Bd 1000 t)) : EvS K (tCall (spS K PTurned) [] E0 ta) ds (.o ((l.map fun h => (h.1, fract (h.2 + t))).map hd)) := ev_call e ⟨hb.1, hb.2⟩
local macro_rules | `(tactic| walk_at "ev") => `(tactic| ((with_reducible apply ev_turned) <;> walk_at "ev"))
abbrev s_mirrored : Stmt := topS 26
theorem sc_mirrored : FnScope ["hands", "rate", "start"] ["hands"] (defScope s_mirrored) := ⟨rfl, rfl, rfl, by decide +kernel, rfl, by decide +kernel, by decide +kernel⟩

inductive PMirrored : List D → S → Prop
  | mk {l : List (Int × Rat)} (h : HsOk l) : PMirrored [hs l] (.o ((l.map fun h => (-h.1, fract (-h.2))).map hd))
theorem ok_mirrored (F : FunAt K mg "mirrored" s_mirrored) (b : Bl mg) (c_asked_hands : Callee P w K mg base "asked_hands" 5 ["hands"] (spS K PAskedHands)) (c_times : Callee P w K mg base "times" 3 ["one", "number"] (spS K PTimes)) (c_rest : Callee P w K mg base "rest" 1 ["one"] (spS K PRest)) :
    Callee P w K mg base "mirrored" 6 ["hands"] (spS K PMirrored) := by
  refine callee_mk F sc_mirrored (fun _ _ _ _ _ _ us hl => match us, hl with | [_], _ => rfl) (by rintro _ _ ⟨⟩; rfl) (fun f cdv A outer sh H E as r hr hp => ?_)
  cases hp with
  | @mk l h =>
  refine ⟨_, (pss_cons (ps_expr (pe_fn c_asked_hands (hr.mono (by decide)) rfl (pa_cons (pv 0) pa_nil)))
      (pss_one (ps_ret (pe_lc (own := [("rate", 1), ("start", 2)]) (g := (gTup K 2 (gCons (gName 1) (gCons (gName 2) gNil)))) rfl sc_mirrored.nd (iL (K := K) (pv 0)) (blkOk_by (N := ["hands", "rate", "start"]) (sc := defScope s_mirrored) (own := [("rate", 1), ("start", 2)]) (by decide +kernel)) (fun _ _ _ _ _ => (gT (K := K) (n := 2) rfl (pgs_cons (pg_name (i := 1) sc_mirrored.nd rfl (by first | exact Or.inl rfl | exact Or.inr rfl)) (pgs_cons (pg_name (i := 2) sc_mirrored.nd rfl (by first | exact Or.inl rfl | exact Or.inr rfl)) pgs_nil)))) (fun _ _ _ _ _ => pts_nil) (fun _ _ _ _ _ => (pe_tup (pa_cons (pNeg (pv 1)) (pa_cons (pe_fn c_rest (hr.mono (by decide)) rfl (pa_cons (pe_fn c_times (hr.mono (by decide)) rfl (pa_cons (pv 2) (pa_cons (pNeg pe_int) pa_nil))) pa_nil)) pa_nil)))))))), ?_⟩
  try dsimp only [cxOf]
  refine sd_seq (sd_drop (by walk_at "ev" <;> exact h) ?_)
  have e : ∀ q : Rat, q * ((-1 : Int) : Rat) = -q := fun q => by
    have : ((-1 : Int) : Rat) = -1 := rfl
    rw [this]
    grind
  refine sd_ret (ev_lcM (l := l) (fa := hd) (fb := fun h => hd (-h.1, fract (h.2 * ((-1 : Int) : Rat)))) (ei_list (ev_var rfl)) (Nat.le_trans h.len (by decide)) (by decide) fun x hx => sg_pair (by walk_at "ev" <;> exact ⟨200, 2, (h.all x hx).bs, (by decide : (1 : Nat) < 4), by decide, by decide⟩)) ?_
  rw [List.map_map]
  simp only [e]
  rfl
theorem ev_mirrored {ds : Env} {ta : TA} {l : List (Int × Rat)} (e : EvA K ta ds [hs l]) (hb : Hyp (HsOk l)) : EvS K (tCall (spS K PMirrored) [] E0 ta) ds (.o ((l.map fun h => (-h.1, fract (-h.2))).map hd)) := ev_call e ⟨hb⟩
local macro_rules | `(tactic| walk_at "ev") => `(tactic| ((with_reducible apply ev_mirrored) <;> walk_at "ev"))
abbrev s_seen_from : Stmt := topS 27
theorem sc_seen_from : FnScope ["hands", "which", "own_rate", "own_start", "rate", "start"] ["hands", "which"] (defScope s_seen_from) := ⟨rfl, rfl, rfl, by decide +kernel, rfl, by decide +kernel, by decide +kernel⟩

inductive PSeenFrom : List D → S → Prop
  | mk {l : List (Int × Rat)} {k : Nat} {o : Int × Rat} (h : HsOk l) (hk : l[k]? = some o) : PSeenFrom [hs l, I (k : Int)] (.o ((l.map fun h => (h.1 - o.1, fract (h.2 - o.2))).map hd))
theorem ok_seen_from (F : FunAt K mg "seen_from" s_seen_from) (b : Bl mg) (c_asked_hands : Callee P w K mg base "asked_hands" 5 ["hands"] (spS K PAskedHands)) (c_asked_hand : Callee P w K mg base "asked_hand" 2 ["hands", "which"] (spS K PAskedHand)) (c_minus : Callee P w K mg base "minus" 4 ["one", "other"] (spS K PMinus)) (c_rest : Callee P w K mg base "rest" 1 ["one"] (spS K PRest)) :
    Callee P w K mg base "seen_from" 6 ["hands", "which"] (spS K PSeenFrom) := by
  refine callee_mk F sc_seen_from (fun _ _ _ _ _ _ us hl => match us, hl with | [_, _], _ => rfl) (by rintro _ _ ⟨⟩; rfl) (fun f cdv A outer sh H E as r hr hp => ?_)
  cases hp with
  | @mk l k o h hk =>
  refine ⟨_, (pss_cons (ps_expr (pe_fn c_asked_hands (hr.mono (by decide)) rfl (pa_cons (pv 0) pa_nil)))
      (pss_cons (ps_expr (pe_fn c_asked_hand (hr.mono (by decide)) rfl (pa_cons (pv 0) (pa_cons (pv 1) pa_nil))))
      (pss_cons (ps_asg (pIx (K := K) (pv 0) (pv 1)) (gT (K := K) (n := 2) rfl (pgs_cons (pg_name (i := 2) sc_seen_from.nd rfl (by first | exact Or.inl rfl | exact Or.inr rfl)) (pgs_cons (pg_name (i := 3) sc_seen_from.nd rfl (by first | exact Or.inl rfl | exact Or.inr rfl)) pgs_nil))))
      (pss_one (ps_ret (pe_lc (own := [("rate", 4), ("start", 5)]) (g := (gTup K 2 (gCons (gName 4) (gCons (gName 5) gNil)))) rfl sc_seen_from.nd (iL (K := K) (pv 0)) (blkOk_by (N := ["hands", "which", "own_rate", "own_start", "rate", "start"]) (sc := defScope s_seen_from) (own := [("rate", 4), ("start", 5)]) (by decide +kernel)) (fun _ _ _ _ _ => (gT (K := K) (n := 2) rfl (pgs_cons (pg_name (i := 4) sc_seen_from.nd rfl (by first | exact Or.inl rfl | exact Or.inr rfl)) (pgs_cons (pg_name (i := 5) sc_seen_from.nd rfl (by first | exact Or.inl rfl | exact Or.inr rfl)) pgs_nil)))) (fun _ _ _ _ _ => pts_nil) (fun _ _ _ _ _ => (pe_tup (pa_cons (pSub (pv 4) (pv 2)) (pa_cons (pe_fn c_rest (hr.mono (by decide)) rfl (pa_cons (pe_fn c_minus (hr.mono (by decide)) rfl (pa_cons (pv 5) (pa_cons (pv 3) pa_nil))) pa_nil)) pa_nil)))))))))), ?_⟩
  try dsimp only [cxOf]
  have hk' : k < l.length := (List.getElem?_eq_some_iff.mp hk).1
  have ho : HOk o := h.all o (List.mem_of_getElem? hk)
  refine sd_seq (sd_drop (by walk_at "ev" <;> exact h) (sd_seq (sd_drop (by walk_at "ev" <;> exact hk') ?_)))
  refine sd_seq (sd_asg (d := hd o) (ev_ixL (xs := l.map hd) (by walk_at "ev") (by walk_at "ev") (atI_nat (by rw [List.getElem?_map, hk]; rfl))) (sg_pair ?_))
  refine sd_ret (ev_lcM (l := l) (fa := hd) (fb := fun h => hd (h.1 - o.1, fract (h.2 - o.2))) (ei_list (ev_var rfl)) (Nat.le_trans h.len (by decide)) (by decide) fun x hx => sg_pair (by walk_at "ev" <;> exact ⟨200, 200, (h.all x hx).bs, ho.bs, by decide⟩)) ?_
  rw [List.map_map]
  rfl
theorem ev_seen_from {ds : Env} {ta : TA} {l : List (Int × Rat)} {k : Nat} {o : Int × Rat} (e : EvA K ta ds [hs l, I (k : Int)]) (hb : Hyp (HsOk l ∧ l[k]? = some o)) : EvS K (tCall (spS K PSeenFrom) [] E0 ta) ds (.o ((l.map fun h => (h.1 - o.1, fract (h.2 - o.2))).map hd)) := ev_call e ⟨hb.1, hb.2⟩
local macro_rules | `(tactic| walk_at "ev") => `(tactic| ((with_reducible apply ev_seen_from) <;> walk_at "ev"))

/-! ### the classes of answers -/
structure Txt (K : PySem.W.Frag) (mg : Str → Option Value) (CA CT CN : Addr) : Prop where
  cAlways : ClsC K mg "Always" CA
  cAt : ClsC K mg "At" CT
  cNever : ClsC K mg "Never" CN
  iAlways : PySem.W.findIn K (.ref CA) "__init__" = some (some (.builtin "object.__init__"))
  nFirst : NoAttr K CT "first"
  nEvery : NoAttr K CT "every"
  nSome : NoAttr K CN "some"
  kAA : PySem.W.kitOne K (.ref CA) (.ref CA) = some true
  kAT : PySem.W.kitOne K (.ref CA) (.ref CT) = some false
  kAN : PySem.W.kitOne K (.ref CA) (.ref CN) = some false
  kTA : PySem.W.kitOne K (.ref CT) (.ref CA) = some false
  kTT : PySem.W.kitOne K (.ref CT) (.ref CT) = some true
  kTN : PySem.W.kitOne K (.ref CT) (.ref CN) = some false
  kNA : PySem.W.kitOne K (.ref CN) (.ref CA) = some false
  kNT : PySem.W.kitOne K (.ref CN) (.ref CT) = some false
  kNN : PySem.W.kitOne K (.ref CN) (.ref CN) = some true
theorem Txt.mAlways {CA CT CN : Addr} (T : Txt K mg CA CT CN) : mg "Always" = some (.ref CA) := T.cAlways.m
theorem Txt.mAt {CA CT CN : Addr} (T : Txt K mg CA CT CN) : mg "At" = some (.ref CT) := T.cAt.m
theorem Txt.mNever {CA CT CN : Addr} (T : Txt K mg CA CT CN) : mg "Never" = some (.ref CN) := T.cNever.m
/-- an answer as data -/
def ansS (CA CT CN : Addr) : Ans → S
  | .always => .p (.ins CA [])
  | .at_ q n => .p (.ins CT [("first", fr q), ("every", .tup [I 1, I (n : Int)])])
  | .never ks => .n CN "some" (ks.map I)
abbrev s_At_init : Stmt := inClass (topS 34) 0
theorem sc_At_init : FnScope ["self", "first", "every"] ["self", "first", "every"] (defScope s_At_init) := ⟨rfl, rfl, rfl, by decide +kernel, rfl, by decide +kernel, by decide +kernel⟩

theorem ok_At_init {CA CT CN : Addr} (T : Txt K mg CA CT CN) (F : InitAt K CT "At.__init__" s_At_init) : ICallee P w K mg base CT 1 ["self", "first", "every"] (spI2 CT "first" "every") := by
  obtain ⟨f, fd, F, M⟩ := F
  refine ⟨f, fd, F.ok sc_At_init (fun vs H Q E h => ?_) (fun cdv A outer s H vs Q E hr h => ?_), M, F.binds (fun _ _ _ _ _ _ us hl => match us, hl with | [_, _, _], _ => rfl)⟩
  · obtain ⟨x, dx, v1, v2, rfl, _⟩ := h
    rfl
  · obtain ⟨x, dx, v1, v2, rfl, hx, q⟩ := h
    refine ⟨_, pss_cons (ps_fld (pv 0) (pv 1) rfl) (pss_one (ps_fld (pv 0) (pv 2) rfl)), ?_⟩
    refine ⟨v1, rfl, _, rfl, x, CT, dx, [], rfl, hx, T.cAt.it.cl, T.nFirst, (by show 0 < 1000; decide), v2, rfl, _, rfl, x, CT, dx, _, rfl, upd_same, T.cAt.it.cl, T.nEvery, (by show 1 < 1000; decide), ?_⟩
    refine q _ (fun a ha => by rw [upd_ne ha, upd_ne ha]) ?_
    rw [upd_same]
    show some (HO.ins CT dx (if ("first" : Str) = "every" then _ else _)) = _
    rw [if_neg (by decide +kernel)]
    rfl
abbrev s_Never_init : Stmt := inClass (topS 35) 0
theorem sc_Never_init : FnScope ["self", "some"] ["self", "some"] (defScope s_Never_init) := ⟨rfl, rfl, rfl, by decide +kernel, rfl, by decide +kernel, by decide +kernel⟩

theorem ok_Never_init {CA CT CN : Addr} (T : Txt K mg CA CT CN) (b : Bl mg) (F : InitAt K CN "Never.__init__" s_Never_init) : ICallee P w K mg base CN 1 ["self", "some"] (spIL K CN "some") := by
  obtain ⟨f, fd, F, M⟩ := F
  refine ⟨f, fd, F.ok sc_Never_init (fun vs H Q E h => ?_) (fun cdv A outer s H vs Q E hr h => ?_), M, F.binds (fun _ _ _ _ _ _ us hl => match us, hl with | [_, _], _ => rfl)⟩
  · obtain ⟨x, dx, l, ys, rfl, _⟩ := h
    rfl
  · obtain ⟨x, dx, l, ys, rfl, hx, hl, q⟩ := h
    refine ⟨_, pss_one (ps_fld (pv 0) (pe_callTy (kList (K := K)) rfl b.list_ bt_list (pa_cons (pv 1) pa_nil)) rfl), ?_⟩
    refine ⟨_, rfl, l, ys, rfl, .inl hl, fun r hr' => ?_⟩
    have nrx : x ≠ r := ne_of_none hx hr'
    refine ⟨_, rfl, x, CN, dx, [], rfl, by rw [upd_ne nrx]; exact hx, T.cNever.it.cl, T.nSome, (by show 0 < 1000; decide), ?_⟩
    refine q _ r hr' (fun a ha hb => by rw [upd_ne ha, upd_ne hb]) (by rw [upd_ne (Ne.symm nrx), upd_same]) ?_
    rw [upd_same]
    rfl
/-! ### gap, clash -/
theorem ev_h0 {ds : Env} {te : TE} {l : List Hd} {h : Hd} (e : EvS K te ds (.p (hs l))) (h0 : l[0]? = some h) : EvS K (tOp (rIxA K) te (tC (.int 0))) ds (.p (hd h)) :=
  ev_ixL (xs := l.map hd) (i := 0) e ev_c (atI_nat (j := 0) (by rw [List.getElem?_map, h0]; rfl))
theorem ev_hi {ds : Env} {te ti : TE} {l : List Hd} {h : Hd} {i : Nat} (e : EvS K te ds (.p (hs l))) (ei : EvS K ti ds (.p (I (i : Int)))) (h0 : l[i]? = some h) : EvS K (tOp (rIxA K) te ti) ds (.p (hd h)) :=
  ev_ixL (xs := l.map hd) e ei (atI_nat (by rw [List.getElem?_map, h0]; rfl))
theorem den1 (q : Rat) : (!decide ((q.den : Int) = 1)) = decide (q.den ≠ 1) := by
  by_cases h : q.den = 1
  · simp [h]
  · have : ¬ (q.den : Int) = 1 := by omega
    simp [h, this]
theorem gap_step {l : List Hd} {c : Int} {i : Nat} {x : Hd} (h : l[i]? = some x) : (l.take (i + 1)).foldl (fun g h => Int.gcd g (h.1 - c)) 0 = Int.gcd (((l.take i).foldl (fun g h => Int.gcd g (h.1 - c)) 0 : Nat) : Int) (x.1 - c) := by
  rw [List.take_succ, h, List.foldl_append]
  rfl
abbrev s_gap : Stmt := topS 31
theorem sc_gap : FnScope ["hands", "found", "rate", "start", "more"] ["hands"] (defScope s_gap) := ⟨rfl, rfl, rfl, by decide +kernel, rfl, by decide +kernel, by decide +kernel⟩

inductive PGap : List D → S → Prop
  | mk {l : List Hd} (h : l.length ≤ 1000) : PGap [hs l] (.p (I (gapF l : Int)))
theorem ok_gap (F : FunAt K mg "gap" s_gap) (b : Bl mg) (c_common : Callee P w K mg base "common" 1 ["one", "other"] (spS K PCommon)) : Callee P w K mg base "gap" 2 ["hands"] (spS K PGap) := by
  refine callee_mk F sc_gap (fun _ _ _ _ _ _ us hl => match us, hl with | [_], _ => rfl) (by rintro _ _ ⟨⟩; rfl) (fun f cdv A outer sh H E as r hr hp => ?_)
  cases hp with
  | @mk l hl =>
  refine ⟨_, (pss_cons (ps_set (i := 1) sc_gap.nd rfl (by first | exact Or.inl rfl | exact Or.inr rfl) pe_int)
      (pss_cons (ps_for PassesOwn.never rfl (iL (K := K) (pv 0)) (gT (K := K) (n := 2) rfl (pgs_cons (pg_name (i := 2) sc_gap.nd rfl (by first | exact Or.inl rfl | exact Or.inr rfl)) (pgs_cons (pg_name (i := 3) sc_gap.nd rfl (by first | exact Or.inl rfl | exact Or.inr rfl)) pgs_nil))) (pss_cons (ps_set (i := 4) sc_gap.nd rfl (by first | exact Or.inl rfl | exact Or.inr rfl) (pSub (pv 2) (pIx (K := K) (pIx (K := K) (pv 0) pe_int) pe_int)))
      (pss_one (ps_if (qNe (K := K) hr (pv 4) pe_int) (pss_one (ps_set (i := 1) sc_gap.nd rfl (by first | exact Or.inl rfl | exact Or.inr rfl) (pe_fn c_common (hr.mono (by decide)) rfl (pa_cons (pv 1) (pa_cons (pv 4) pa_nil))))) pss_nil))))
      (pss_one (ps_ret (pv 1))))), ?_⟩
  try dsimp only [cxOf]
  refine sd_seq (sd_set (by walk_at "ev") ?_)
  refine sd_seq (sd_for (gv := [2, 3]) (ei_list (ev_var rfl)) (fun i ds => ∃ x y z, ds = [some (.p (hs l)), some (.p (I (((l.take i).foldl (fun g h => Int.gcd g (h.1 - (l.getD 0 (0, 0)).1)) 0 : Nat) : Int))), x, y, z]) ⟨none, none, none, rfl⟩ ?_ ?_)
  · rintro i d ds hd ⟨x, y, z, rfl⟩
    rw [List.getElem?_map] at hd
    cases hq : l[i]? with
    | none => rw [hq] at hd; cases hd
    | some h =>
    rw [hq] at hd
    cases hd
    have h0 : l[0]? = some (l.getD 0 (0, 0)) := by
      have : 0 < l.length := Nat.lt_of_le_of_lt (Nat.zero_le _) (List.getElem?_eq_some_iff.mp hq).1
      rw [List.getD_eq_getElem?_getD, List.getElem?_eq_getElem this]
      rfl
    refine sg_pair ?_
    refine sd_seq (sd_set (s := .p (I (h.1 - (l.getD 0 (0, 0)).1))) (by
      refine ev_sub (by walk_at "ev") (ev_t0 (a := I (l.getD 0 (0, 0)).1) (xs := [fr (l.getD 0 (0, 0)).2]) (ev_h0 (by walk_at "ev") h0))) ?_)
    refine sd_if (by walk_at "ev") (fun e => ?_) (fun e => ?_)
    · refine sd_set (by walk_at "ev") ?_
      rw [gap_step hq]
      exact ⟨_, _, _, rfl⟩
    · refine sd_next ?_
      have e' : h.1 - (l.getD 0 (0, 0)).1 = 0 := by
        have : (!decide (h.1 - (l.getD 0 (0, 0)).1 = 0)) = false := e
        simpa using this
      rw [gap_step hq, e', Int.gcd_zero]
      exact ⟨_, _, _, rfl⟩
  · rintro ds ⟨x, y, z, rfl⟩
    rw [List.length_map, List.take_length]
    exact sd_ret (by walk_at "ev") rfl
theorem ev_gap {ds : Env} {ta : TA} {l : List Hd} (e : EvA K ta ds [hs l]) (hb : Hyp (l.length ≤ 1000)) : EvS K (tCall (spS K PGap) [] E0 ta) ds (.p (I (gapF l : Int))) := ev_call e ⟨hb⟩
local macro_rules | `(tactic| walk_at "ev") => `(tactic| ((with_reducible apply ev_gap) <;> walk_at "ev"))
abbrev s_clash : Stmt := topS 32
theorem sc_clash : FnScope ["one", "other", "third", "near", "far", "first", "second", "by"] ["one", "other", "third"] (defScope s_clash) := ⟨rfl, rfl, rfl, by decide +kernel, rfl, by decide +kernel, by decide +kernel⟩

inductive PClash : List D → S → Prop
  | mk {x y z : Hd} (hx : HOk x) (hy : HOk y) (hz : HOk z) : PClash [hd x, hd y, hd z] (.p (B (clashF x y z)))
theorem gcd_bt {a b : Int} (h : a ≠ 0 ∨ b ≠ 0) : (0 : Int) < (Int.gcd a b : Int) := by
  have : Int.gcd a b ≠ 0 := by rw [Ne, Int.gcd_eq_zero_iff]; omega
  omega
theorem gcd_le {n : Nat} {a b : Int} (h : a ≠ 0) (ha : Bt n a) : Bt n (Int.gcd a b : Int) := by
  have : Int.gcd a b ≤ a.natAbs := Nat.le_of_dvd (by omega) (Int.gcd_dvd_natAbs_left a b)
  unfold Bt at *
  omega
theorem gcd_le' {n : Nat} {a b : Int} (h : b ≠ 0) (hb : Bt n b) : Bt n (Int.gcd a b : Int) := by
  have : Int.gcd a b ≤ b.natAbs := Nat.le_of_dvd (by omega) (Int.gcd_dvd_natAbs_right a b)
  unfold Bt at *
  omega
theorem div_bt {n : Nat} {a b : Int} (ha : Bt n a) : Bt n (a / b) := by
  have := Int.natAbs_ediv_le_natAbs a b
  unfold Bt at *
  omega
theorem ok_clash (F : FunAt K mg "clash" s_clash) (b : Bl mg) (c_common : Callee P w K mg base "common" 1 ["one", "other"] (spS K PCommon)) (c_minus : Callee P w K mg base "minus" 4 ["one", "other"] (spS K PMinus)) (c_times : Callee P w K mg base "times" 3 ["one", "number"] (spS K PTimes)) :
    Callee P w K mg base "clash" 5 ["one", "other", "third"] (spS K PClash) := by
  refine callee_mk F sc_clash (fun _ _ _ _ _ _ us hl => match us, hl with | [_, _, _], _ => rfl) (by rintro _ _ ⟨⟩; rfl) (fun f cdv A outer sh H E as r hr hp => ?_)
  cases hp with
  | @mk x y z hx hy hz =>
  refine ⟨_, (pss_cons (ps_set (i := 3) sc_clash.nd rfl (by first | exact Or.inl rfl | exact Or.inr rfl) (pSub (pIx (K := K) (pv 1) pe_int) (pIx (K := K) (pv 0) pe_int)))
      (pss_cons (ps_set (i := 4) sc_clash.nd rfl (by first | exact Or.inl rfl | exact Or.inr rfl) (pSub (pIx (K := K) (pv 2) pe_int) (pIx (K := K) (pv 0) pe_int)))
      (pss_cons (ps_set (i := 5) sc_clash.nd rfl (by first | exact Or.inl rfl | exact Or.inr rfl) (pe_fn c_minus (hr.mono (by decide)) rfl (pa_cons (pIx (K := K) (pv 0) pe_int) (pa_cons (pIx (K := K) (pv 1) pe_int) pa_nil))))
      (pss_cons (ps_set (i := 6) sc_clash.nd rfl (by first | exact Or.inl rfl | exact Or.inr rfl) (pe_fn c_minus (hr.mono (by decide)) rfl (pa_cons (pIx (K := K) (pv 0) pe_int) (pa_cons (pIx (K := K) (pv 2) pe_int) pa_nil))))
      (pss_cons (ps_if (PW.pt (pw_or (qEq (K := K) hr (pv 3) pe_int) (pw_or1 (qEq (K := K) hr (pv 4) pe_int)))) (pss_one (ps_ret (pe_or (pe_and (pEq (K := K) hr (pv 3) pe_int) (pe_one (pNe (K := K) hr (pIx (K := K) (pv 5) pe_int) pe_int))) (pe_one (pe_and (pEq (K := K) hr (pv 4) pe_int) (pe_one (pNe (K := K) hr (pIx (K := K) (pv 6) pe_int) pe_int))))))) pss_nil)
      (pss_cons (ps_set (i := 7) sc_clash.nd rfl (by first | exact Or.inl rfl | exact Or.inr rfl) (pe_fn c_common (hr.mono (by decide)) rfl (pa_cons (pv 3) (pa_cons (pv 4) pa_nil))))
      (pss_one (ps_ret (pNe (K := K) hr (pIx (K := K) (pe_fn c_minus (hr.mono (by decide)) rfl (pa_cons (pe_fn c_times (hr.mono (by decide)) rfl (pa_cons (pv 5) (pa_cons (pDiv (pv 4) (pv 7)) pa_nil))) (pa_cons (pe_fn c_times (hr.mono (by decide)) rfl (pa_cons (pv 6) (pa_cons (pDiv (pv 3) (pv 7)) pa_nil))) pa_nil))) pe_int) pe_int))))))))), ?_⟩
  try dsimp only [cxOf]
  have b1 : Bd 401 (x.2 - y.2) := hx.bs.sub hy.bs
  have b2 : Bd 401 (x.2 - z.2) := hx.bs.sub hz.bs
  have bn : Bt 101 (y.1 - x.1) := hy.br.sub hx.br
  have bf : Bt 101 (z.1 - x.1) := hz.br.sub hx.br
  refine sd_seq (sd_set (by walk_at "ev") (sd_seq (sd_set (by walk_at "ev") (sd_seq (sd_set (by walk_at "ev" <;> exact ⟨200, 200, hx.bs, hy.bs, by decide⟩) (sd_seq (sd_set (by walk_at "ev" <;> exact ⟨200, 200, hx.bs, hz.bs, by decide⟩) ?_)))))))
  refine sd_seq (sd_if (et_or (by walk_at "ev") fun _ => (by walk_at "ev")) (fun e => ?_) (fun e => sd_next ?_))
  · refine sd_ret (ev_orB (ev_andB (by walk_at "ev") fun _ => (by walk_at "ev")) fun _ => ev_andB (by walk_at "ev") fun _ => (by walk_at "ev")) ?_
    unfold clashF
    dsimp only
    have e' : y.1 - x.1 = 0 ∨ z.1 - x.1 = 0 := by simpa using e
    rw [if_pos e']
    rw [den1, den1]
  · have e' : ¬ (y.1 - x.1 = 0 ∨ z.1 - x.1 = 0) := by simpa using e
    have n0 : y.1 - x.1 ≠ 0 := fun q => e' (.inl q)
    have hg := gcd_bt (a := y.1 - x.1) (b := z.1 - x.1) (.inl n0)
    have hgb := gcd_le (b := z.1 - x.1) n0 bn
    refine sd_seq (sd_set (by walk_at "ev") ?_)
    refine sd_ret (by
      walk_at "ev"
      · exact Bt.div hg hgb (by decide) (by decide)
      · exact ⟨401, 101, b1, div_bt bf, by decide, by decide⟩
      · exact Bt.div hg hgb (by decide) (by decide)
      · exact ⟨401, 101, b2, div_bt bn, by decide, by decide⟩
      · exact ⟨502, 502, b1.mulI (div_bt bf), b2.mulI (div_bt bn), by decide⟩) ?_
    unfold clashF
    dsimp only
    rw [if_neg e', den1]
theorem ev_clash {ds : Env} {ta : TA} {x y z : Hd} (e : EvA K ta ds [hd x, hd y, hd z]) (hb : Hyp (HOk x ∧ HOk y ∧ HOk z)) : EvS K (tCall (spS K PClash) [] E0 ta) ds (.p (B (clashF x y z))) := ev_call e ⟨hb.1, hb.2.1, hb.2.2⟩
local macro_rules | `(tactic| walk_at "ev") => `(tactic| ((with_reducible apply ev_clash) <;> walk_at "ev"))

/-! ### undone -/
abbrev s_undone : Stmt := topS 37
theorem sc_undone : FnScope ["number", "size", "one", "other", "first", "second", "by"] ["number", "size"] (defScope s_undone) := ⟨rfl, rfl, rfl, by decide +kernel, rfl, by decide +kernel, by decide +kernel⟩

inductive PUndone : List D → S → Prop
  | mk {n s : Int} (hs : 0 < s) (hg : Int.gcd n s = 1) (hb : Bt 4000 s) : PUndone [I n, I s] (.p (I (invM n s)))
theorem ok_undone (F : FunAt K mg "undone" s_undone) (b : Bl mg) : Callee P w K mg base "undone" 1 ["number", "size"] (spS K PUndone) := by
  refine callee_mk F sc_undone (fun _ _ _ _ _ _ us hl => match us, hl with | [_, _], _ => rfl) (by rintro _ _ ⟨⟩; rfl) (fun f cdv A outer sh H E as r hr hp => ?_)
  cases hp with
  | @mk n s hs hg hb =>
  refine ⟨_, (pss_cons (ps_par (i := 2) (j := 3) rfl sc_undone.nd rfl rfl (by decide) rfl rfl (pa_cons (pv 1) (pa_cons (pMod (pv 0) (pv 1)) pa_nil)) rfl)
      (pss_cons (ps_asg (pe_tup (pa_cons pe_int (pa_cons pe_int pa_nil))) (gT (K := K) (n := 2) rfl (pgs_cons (pg_name (i := 4) sc_undone.nd rfl (by first | exact Or.inl rfl | exact Or.inr rfl)) (pgs_cons (pg_name (i := 5) sc_undone.nd rfl (by first | exact Or.inl rfl | exact Or.inr rfl)) pgs_nil))))
      (pss_cons (ps_while PassesOwn.never (qNe (K := K) hr (pv 3) pe_int) (pss_cons (ps_set (i := 6) sc_undone.nd rfl (by first | exact Or.inl rfl | exact Or.inr rfl) (pDiv (pv 2) (pv 3)))
      (pss_cons (ps_par (i := 2) (j := 3) rfl sc_undone.nd rfl rfl (by decide) rfl rfl (pa_cons (pv 3) (pa_cons (pSub (pv 2) (pMul (pv 6) (pv 3))) pa_nil)) rfl)
      (pss_one (ps_par (i := 4) (j := 5) rfl sc_undone.nd rfl rfl (by decide) rfl rfl (pa_cons (pv 5) (pa_cons (pSub (pv 4) (pMul (pv 6) (pv 5))) pa_nil)) rfl)))))
      (pss_one (ps_ret (pMod (pv 4) (pv 1))))))), ?_⟩
  try dsimp only [cxOf]
  refine sd_seq (sd_par (a := I s) (b := I (n % s)) (by walk_at "ev" <;> exact hs) ?_)
  refine sd_seq (sd_asg (gv := [4, 5]) (d := .tup [I 0, I 1]) (by walk_at "ev") (sg_pair ?_))
  refine sd_seq (sd_while (fun ds => ∃ one other first second x, ds = [some (.p (I n)), some (.p (I s)), some (.p (I one)), some (.p (I other)), some (.p (I first)), some (.p (I second)), x] ∧ UInv n s one other first second ∧ one ≤ s ∧ other ≤ s)
    (fun ds => match ds with | [_, _, _, some (.p (.val (.int m))), _, _, _] => m.natAbs | _ => 0) ⟨s, n % s, 0, 1, none, rfl, uinv_start hs hg, Int.le_refl _, Int.le_of_lt (Int.emod_lt_of_pos _ hs)⟩ ?_)
  rintro ds ⟨one, other, first, second, x, rfl, Iu, hos, hot⟩
  refine ⟨!decide (other = 0), by walk_at "ev", fun h => ?_, fun h => ?_⟩
  · have ho : 0 < other := by
      have h1 : ¬ other = 0 := by simpa using h
      have := Iu.o2
      omega
    have bo : Bt 4000 other := Nat.lt_of_le_of_lt (show other.natAbs ≤ s.natAbs by omega) hb
    have b1 : Bt 4000 one := Nat.lt_of_le_of_lt (show one.natAbs ≤ s.natAbs by have := Iu.o1; omega) hb
    have bs : Bt 4000 second := Nat.lt_of_le_of_lt (uinv_second Iu) hb
    have bq : Bt 4000 (one / other) := div_bt b1
    refine sd_seq (sd_set (by walk_at "ev" <;> exact Bt.div ho bo (by decide) (by decide)) ?_)
    refine sd_seq (sd_par (a := I other) (b := I (one - one / other * other)) (by walk_at "ev" <;> exact CM.of bq bo (by decide)) ?_)
    refine sd_par (a := I second) (b := I (first - one / other * second)) (by walk_at "ev" <;> exact CM.of bq bs (by decide)) ?_
    refine ⟨⟨other, _, second, _, _, rfl, uinv_step Iu ho, hot, ?_⟩, ?_⟩
    · have e := Int.emod_add_mul_ediv one other
      have m2 := Int.emod_lt_of_pos one ho
      have : one / other * other = other * (one / other) := Int.mul_comm _ _
      omega
    · show (one - one / other * other).natAbs < other.natAbs
      have e := Int.emod_add_mul_ediv one other
      have m1 := Int.emod_nonneg one (show other ≠ 0 by omega)
      have m2 := Int.emod_lt_of_pos one ho
      have : one / other * other = other * (one / other) := Int.mul_comm _ _
      omega
  · have h0 : other = 0 := by simpa using h
    subst h0
    refine sd_ret (by walk_at "ev" <;> exact hs) ?_
    rw [uinv_end hs hg Iu]
theorem ev_undone {ds : Env} {ta : TA} {n s : Int} (e : EvA K ta ds [I n, I s]) (hb : Hyp (0 < s ∧ Int.gcd n s = 1 ∧ Bt 4000 s)) : EvS K (tCall (spS K PUndone) [] E0 ta) ds (.p (I (invM n s))) := ev_call e ⟨hb.1, hb.2.1, hb.2.2⟩
local macro_rules | `(tactic| walk_at "ev") => `(tactic| ((with_reducible apply ev_undone) <;> walk_at "ev"))
/-! ### brought -/
abbrev s_brought : Stmt := topS 38
theorem sc_brought : FnScope ["first", "size", "more", "lack", "by", "wide", "short", "turn"] ["first", "size", "more", "lack"] (defScope s_brought) := ⟨rfl, rfl, rfl, by decide +kernel, rfl, by decide +kernel, by decide +kernel⟩

def broughtS : Option (Rat × Nat) → S
  | none => .p dN
  | some (f, s) => .p (.tup [fr f, I (s : Int)])
inductive PBrought : List D → S → Prop
  | mk {first lack : Rat} {size : Nat} {more : Int} (hz : 0 < size) (hs : Bt 101 (size : Int)) (hm : Bt 101 more) (hf : Bd 600 first) (hl : Bd 401 lack) : PBrought [fr first, I (size : Int), I more, fr lack] (broughtS (broughtF first size more lack))
theorem ok_brought (F : FunAt K mg "brought" s_brought) (b : Bl mg) (c_common : Callee P w K mg base "common" 1 ["one", "other"] (spS K PCommon)) (c_minus : Callee P w K mg base "minus" 4 ["one", "other"] (spS K PMinus)) (c_times : Callee P w K mg base "times" 3 ["one", "number"] (spS K PTimes))
    (c_plus : Callee P w K mg base "plus" 3 ["one", "other"] (spS K PPlus)) (c_made : Callee P w K mg base "made" 2 ["above", "below"] (spS K PMade)) (c_undone : Callee P w K mg base "undone" 1 ["number", "size"] (spS K PUndone)) :
    Callee P w K mg base "brought" 5 ["first", "size", "more", "lack"] (spS K PBrought) := by
  refine callee_mk F sc_brought (fun _ _ _ _ _ _ us hl => match us, hl with | [_, _, _, _], _ => rfl) (by rintro _ _ ⟨⟩; rfl) (fun f cdv A outer sh H E as r hr hp => ?_)
  cases hp with
  | @mk first lack size more hz hs hm hf hl =>
  refine ⟨_, (pss_cons (ps_set (i := 4) sc_brought.nd rfl (by first | exact Or.inl rfl | exact Or.inr rfl) (pe_fn c_common (hr.mono (by decide)) rfl (pa_cons (pv 1) (pa_cons (pv 2) pa_nil))))
      (pss_cons (ps_set (i := 5) sc_brought.nd rfl (by first | exact Or.inl rfl | exact Or.inr rfl) (pDiv (pv 1) (pv 4)))
      (pss_cons (ps_set (i := 6) sc_brought.nd rfl (by first | exact Or.inl rfl | exact Or.inr rfl) (pe_fn c_minus (hr.mono (by decide)) rfl (pa_cons (pv 3) (pa_cons (pe_fn c_times (hr.mono (by decide)) rfl (pa_cons (pv 0) (pa_cons (pv 2) pa_nil))) pa_nil))))
      (pss_cons (ps_if (qNe (K := K) hr (pMod (pMul (pv 5) (pIx (K := K) (pv 6) pe_int)) (pIx (K := K) (pv 6) pe_int)) pe_int) (pss_one (ps_ret pe_non)) pss_nil)
      (pss_cons (ps_set (i := 7) sc_brought.nd rfl (by first | exact Or.inl rfl | exact Or.inr rfl) (pMod (pMul (pDiv (pMul (pv 5) (pIx (K := K) (pv 6) pe_int)) (pIx (K := K) (pv 6) pe_int)) (pe_fn c_undone (hr.mono (by decide)) rfl (pa_cons (pDiv (pv 2) (pv 4)) (pa_cons (pv 5) pa_nil)))) (pv 5)))
      (pss_one (ps_ret (pe_tup (pa_cons (pe_fn c_plus (hr.mono (by decide)) rfl (pa_cons (pv 0) (pa_cons (pe_fn c_made (hr.mono (by decide)) rfl (pa_cons (pv 7) (pa_cons (pv 1) pa_nil))) pa_nil))) (pa_cons (pv 4) pa_nil)))))))))), ?_⟩
  try dsimp only [cxOf]
  obtain ⟨w1, w2, w3, w4, w5⟩ := wide_facts (more := more) hz
  have bg : Bt 101 (Int.gcd size more : Int) := Nat.lt_of_le_of_lt (show _ ≤ (size : Int).natAbs by omega) hs
  have bw : Bt 101 ((size : Int) / (Int.gcd size more : Int)) := Nat.lt_of_le_of_lt (show _ ≤ (size : Int).natAbs by omega) hs
  have bsh : Bd 1103 (lack - first * (more : Rat)) := (hl.sub (hf.mulI hm)).mono (by decide)
  refine sd_seq (sd_set (by walk_at "ev") ?_)
  refine sd_seq (sd_set (by walk_at "ev" <;> exact Bt.div w1 bg (by decide) (by decide)) ?_)
  refine sd_seq (sd_set (by
    walk_at "ev"
    · exact ⟨600, 101, hf, hm, by decide, by decide⟩
    · exact ⟨401, 701, hl, hf.mulI hm, by decide⟩) ?_)
  refine sd_seq (sd_if (by
    walk_at "ev"
    · exact CM.of (a := 101) (b := 1103) bw bsh.nu (by decide)
    · exact den_pos _) (fun e => ?_) (fun e => sd_next ?_))
  · have e' : ¬ ((size : Int) / (Int.gcd size more : Int) * (lack - first * (more : Rat)).num % ((lack - first * (more : Rat)).den : Int) = 0) := by simpa using e
    refine sd_ret (by walk_at "ev") ?_
    unfold broughtF
    dsimp only
    rw [if_pos e']
    rfl
  · have e' : (size : Int) / (Int.gcd size more : Int) * (lack - first * (more : Rat)).num % ((lack - first * (more : Rat)).den : Int) = 0 := by simpa using e
    have bN : Bt 1204 ((size : Int) / (Int.gcd size more : Int) * (lack - first * (more : Rat)).num / ((lack - first * (more : Rat)).den : Int)) := div_bt (Bt.mul bw bsh.nu)
    have hu := invM_spec w3 w5
    have bu : Bt 101 (invM (more / (Int.gcd size more : Int)) ((size : Int) / (Int.gcd size more : Int))) := Nat.lt_of_le_of_lt (show _ ≤ (size : Int).natAbs by omega) hs
    have t1 := Int.emod_nonneg ((size : Int) / (Int.gcd size more : Int) * (lack - first * (more : Rat)).num / ((lack - first * (more : Rat)).den : Int) * invM (more / (Int.gcd size more : Int)) ((size : Int) / (Int.gcd size more : Int))) (show (size : Int) / (Int.gcd size more : Int) ≠ 0 by omega)
    have t2 := Int.emod_lt_of_pos ((size : Int) / (Int.gcd size more : Int) * (lack - first * (more : Rat)).num / ((lack - first * (more : Rat)).den : Int) * invM (more / (Int.gcd size more : Int)) ((size : Int) / (Int.gcd size more : Int))) w3
    refine sd_seq (sd_set (by
      walk_at "ev"
      · exact CM.of (a := 101) (b := 1103) bw bsh.nu (by decide)
      · exact Bt.div (b := 1103) (den_pos _) bsh.de (by decide) (by decide)
      · exact Bt.div w1 bg (by decide) (by decide)
      · exact ⟨w3, w5, bw.mono (by decide)⟩
      · exact CM.of bN bu (by decide)
      · exact w3) ?_)
    refine sd_ret (by
      walk_at "ev"
      · exact ⟨by omega, hs.mono (by decide)⟩
      · exact ⟨600, 101, hf, made_bd (by omega) (Nat.lt_of_le_of_lt (show _ ≤ (size : Int).natAbs by omega) hs) hs (by decide), by decide, by decide⟩) ?_
    unfold broughtF
    dsimp only
    rw [if_neg (by intro z; exact z e')]
    rfl
theorem ev_brought {ds : Env} {ta : TA} {first lack : Rat} {size : Nat} {more : Int} (e : EvA K ta ds [fr first, I (size : Int), I more, fr lack]) (hb : Hyp (0 < size ∧ Bt 101 (size : Int) ∧ Bt 101 more ∧ Bd 600 first ∧ Bd 401 lack)) :
    EvS K (tCall (spS K PBrought) [] E0 ta) ds (broughtS (broughtF first size more lack)) := ev_call e ⟨hb.1, hb.2.1, hb.2.2.1, hb.2.2.2.1, hb.2.2.2.2⟩
/-! ### never_of -/
abbrev s_never_of : Stmt := topS 39
theorem sc_never_of : FnScope ["hands", "last", "other"] ["hands", "last"] (defScope s_never_of) := ⟨rfl, rfl, rfl, by decide +kernel, rfl, by decide +kernel, by decide +kernel⟩

inductive PNeverOf (CN : Addr) : List D → S → Prop
  | mk {l p rest : List Hd} {h0 h : Hd} (hv : HsOk l) (hl : l = p ++ h :: rest) (h0' : l[0]? = some h0) (hp : 0 < p.length) : PNeverOf CN [hs l, I (p.length : Int)] (.n CN "some" ((neverF h0 p h).map I))
theorem find_step {n i : Nat} {f : Nat → Bool} (hi : i < n) (hno : ∀ j, j < i → f j = false) (hf : f i = true) : (List.range n).find? f = some i := by
  rw [List.find?_eq_some_iff_append]
  refine ⟨hf, List.range i, (List.range (n - i - 1)).map (· + (i + 1)), ?_, fun a ha => ?_⟩
  · apply List.ext_getElem?
    intro k
    by_cases hk : k < n
    · rw [List.getElem?_range hk]
      by_cases h1 : k < i
      · rw [List.getElem?_append_left (by rw [List.length_range]; exact h1), List.getElem?_range h1]
      · rw [List.getElem?_append_right (by rw [List.length_range]; omega), List.length_range]
        by_cases h2 : k = i
        · subst h2; rw [Nat.sub_self]; rfl
        · obtain ⟨m, rfl⟩ : ∃ m, k = i + 1 + m := ⟨k - i - 1, by omega⟩
          have e : i + 1 + m - i = m + 1 := by omega
          rw [e, List.getElem?_cons_succ, List.getElem?_map, List.getElem?_range (by omega)]
          show _ = some (m + (i + 1))
          congr 1
          omega
    · rw [List.getElem?_eq_none (by rw [List.length_range]; omega), List.getElem?_eq_none]
      rw [List.length_append, List.length_cons, List.length_map, List.length_range, List.length_range]
      omega
  · rw [hno a (List.mem_range.mp ha)]
    rfl
theorem ok_never_of {CA CT CN : Addr} (T : Txt K mg CA CT CN) (F : FunAt K mg "never_of" s_never_of) (b : Bl mg) (i_Never : ICallee P w K mg base CN 1 ["self", "some"] (spIL K CN "some")) (c_clash : Callee P w K mg base "clash" 5 ["one", "other", "third"] (spS K PClash)) :
    Callee P w K mg base "never_of" 6 ["hands", "last"] (spS K (PNeverOf CN)) := by
  refine callee_mk F sc_never_of (fun _ _ _ _ _ _ us hl => match us, hl with | [_, _], _ => rfl) (by rintro _ _ ⟨⟩; rfl) (fun f cdv A outer sh H E as r hr hp => ?_)
  cases hp with
  | @mk l p rest h0 h hv hl h0' hp =>
  refine ⟨_, (pss_cons (ps_for PassesOwn.never rfl (pi_range2 rfl b.range_ (pa_cons pe_int (pa_cons (pAdd (pv 1) pe_int) pa_nil))) (pg_name (i := 2) sc_never_of.nd rfl (by first | exact Or.inl rfl | exact Or.inr rfl)) (pss_one (ps_if (pt_val (pe_fn c_clash (hr.mono (by decide)) rfl (pa_cons (pIx (K := K) (pv 0) pe_int) (pa_cons (pIx (K := K) (pv 0) (pv 2)) (pa_cons (pIx (K := K) (pv 0) (pv 1)) pa_nil))))) (pss_one (ps_ret (pe_mk i_Never (hr.mono (by decide)) rfl T.mNever (pa_cons (pe_callB (cr_sortedSet rfl) rfl b.sorted_ bt_sorted (pa_cons (pe_callTy (kSet (K := K) rfl (w := w)) rfl b.set_ bt_set (pa_cons (pe_lst (pa_cons pe_int (pa_cons (pv 2) (pa_cons (pv 1) pa_nil)))) pa_nil)) pa_nil)) pa_nil)))) pss_nil)))
      (pss_one (ps_ret (pe_mk i_Never (hr.mono (by decide)) rfl T.mNever (pa_cons (pe_lst pa_nil) pa_nil))))), ?_⟩
  try dsimp only [cxOf]
  have hlen : l.length ≤ 63 := hv.len
  have hpl : p.length < l.length := by rw [hl, List.length_append, List.length_cons]; omega
  have hlast : l[p.length]? = some h := by rw [hl, List.getElem?_append_right (Nat.le_refl _), Nat.sub_self]; rfl
  have hm0 := hv.all h0 (List.mem_of_getElem? h0')
  have hm := hv.all h (List.mem_of_getElem? hlast)
  refine sd_seq (sd_for (gv := [2]) (ei_range2 (m := 1) (n := (p.length : Int) + 1) (by walk_at "ev") (by omega) (by omega) (by omega) (by omega)) (fun i ds => (∃ x, ds = [some (.p (hs l)), some (.p (I (p.length : Int))), x]) ∧ i ≤ p.length ∧ ∀ j, j < i → clashF h0 ((p ++ [h]).getD (j + 1) h0) h = false) ⟨⟨none, rfl⟩, Nat.zero_le _, fun j hj => absurd hj (Nat.not_lt_zero _)⟩ ?_ ?_)
  · rintro i d ds hd ⟨⟨x, rfl⟩, hi, hno⟩
    have hi' : i < p.length := by
      have := (List.getElem?_eq_some_iff.mp hd).1
      rw [rangeD_len] at this
      omega
    rw [rangeD_get (by omega)] at hd
    cases hd
    have hlt : i + 1 < (p ++ [h]).length := by rw [List.length_append, List.length_singleton]; omega
    have hy : l[i + 1]? = some ((p ++ [h]).getD (i + 1) h0) := by
      have : l = (p ++ [h]) ++ rest := by rw [List.append_assoc]; exact hl
      rw [this, List.getElem?_append_left hlt, List.getD_eq_getElem?_getD, List.getElem?_eq_getElem hlt]
      rfl
    have hmy := hv.all _ (List.mem_of_getElem? hy)
    have ei : (1 : Int) + (i : Nat) = ((i + 1 : Nat) : Int) := by omega
    rw [ei]
    refine sg_name ?_
    refine sd_if (et_B (ev_clash (x := h0) (y := (p ++ [h]).getD (i + 1) h0) (z := h) (ea_cons (ev_h0 (by walk_at "ev") h0') (ea_cons (ev_hi (by walk_at "ev") (by walk_at "ev") hy) (ea_cons (ev_hi (by walk_at "ev") (by walk_at "ev") hlast) ea_nil))) ⟨hm0, hmy, hm⟩)) (fun e => ?_) (fun e => sd_next ⟨⟨_, rfl⟩, by omega, fun j hj => ?_⟩)
    · refine sd_ret (en_makeL (xs := (sortU [0, ((i + 1 : Nat) : Int), (p.length : Int)]).map I) (ea_cons (EvS.pure (ev_sortU (ns := [0, ((i + 1 : Nat) : Int), (p.length : Int)]) (EvS.pure (ev_lst (ea_cons ev_c (ea_cons (by walk_at "ev") (ea_cons (by walk_at "ev") ea_nil))) (hLen rfl))) (by show 3 < 64; decide))) ea_nil)) ?_
      have hf := find_step (n := p.length) (f := fun i => clashF h0 ((p ++ [h]).getD (i + 1) h0) h) hi' hno e
      unfold neverF
      rw [hf]
      dsimp only
      congr 2
      split
      · rename_i q
        rw [q]
        refine sorted_unique (sortU_sorted _) (by simp; omega) fun k => ?_
        rw [mem_sortU]
        simp
      · refine sortU_eq ?_
        simp
        omega
    · rcases Nat.lt_or_ge j i with h1 | h1
      · exact hno j h1
      · have : j = i := by omega
        rw [this]
        exact e
  · rintro ds ⟨⟨x, rfl⟩, _, hno⟩
    refine sd_ret (en_makeL (xs := []) (ea_cons (EvS.pure (ev_lst ea_nil (hLen rfl))) ea_nil)) ?_
    have hf : (List.range p.length).find? (fun i => clashF h0 ((p ++ [h]).getD (i + 1) h0) h) = none := by
      rw [List.find?_eq_none]
      intro j hj
      rw [List.mem_range] at hj
      have e : (rangeD 1 ((p.length : Int) + 1 - 1).toNat).length = p.length := by rw [rangeD_len]; omega
      rw [e] at hno
      rw [hno j hj]
      decide
    unfold neverF
    rw [hf]
    rfl
theorem ev_never_of {CN : Addr} {ds : Env} {ta : TA} {l p rest : List Hd} {h0 h : Hd} (e : EvA K ta ds [hs l, I (p.length : Int)]) (hb : HsOk l ∧ l = p ++ h :: rest ∧ l[0]? = some h0 ∧ 0 < p.length) :
    EvS K (tCall (spS K (PNeverOf CN)) [] E0 ta) ds (.n CN "some" ((neverF h0 p h).map I)) := ev_call e ⟨hb.1, hb.2.1, hb.2.2.1, hb.2.2.2⟩

/-! ### times_less -/
abbrev s_times_less : Stmt := topS 41
theorem sc_times_less : FnScope ["time", "size"] ["time", "size"] (defScope s_times_less) := ⟨rfl, rfl, rfl, by decide +kernel, rfl, by decide +kernel, by decide +kernel⟩

inductive PTimesLess : List D → S → Prop
  | mk {t : Rat} {n : Nat} (hn : 0 < n) (hb : Bt 101 (n : Int)) (ht : Bd 2000 t) : PTimesLess [fr t, I (n : Int)] (.p (fr (fract (t * ((n : Int) : Rat)) / ((n : Int) : Rat))))
theorem ok_times_less (F : FunAt K mg "times_less" s_times_less) (b : Bl mg) (c_made : Callee P w K mg base "made" 2 ["above", "below"] (spS K PMade)) (c_rest : Callee P w K mg base "rest" 1 ["one"] (spS K PRest)) (c_times : Callee P w K mg base "times" 3 ["one", "number"] (spS K PTimes)) :
    Callee P w K mg base "times_less" 4 ["time", "size"] (spS K PTimesLess) := by
  refine callee_mk F sc_times_less (fun _ _ _ _ _ _ us hl => match us, hl with | [_, _], _ => rfl) (by rintro _ _ ⟨⟩; rfl) (fun f cdv A outer sh H E as r hr hp => ?_)
  cases hp with
  | @mk t n hn hb ht =>
  refine ⟨_, (pss_one (ps_ret (pe_fn c_made (hr.mono (by decide)) rfl (pa_cons (pIx (K := K) (pe_fn c_rest (hr.mono (by decide)) rfl (pa_cons (pe_fn c_times (hr.mono (by decide)) rfl (pa_cons (pv 0) (pa_cons (pv 1) pa_nil))) pa_nil)) pe_int) (pa_cons (pMul (pIx (K := K) (pe_fn c_rest (hr.mono (by decide)) rfl (pa_cons (pe_fn c_times (hr.mono (by decide)) rfl (pa_cons (pv 0) (pa_cons (pv 1) pa_nil))) pa_nil)) pe_int) (pv 1)) pa_nil))))), ?_⟩
  try dsimp only [cxOf]
  have bf : Bd 2101 (fract (t * ((n : Int) : Rat))) := (ht.mulI hb).fract
  refine sd_ret (by
    walk_at "ev"
    · exact ⟨2000, 101, ht, hb, by decide, by decide⟩
    · exact ⟨2000, 101, ht, hb, by decide, by decide⟩
    · exact CM.of (a := 2101) bf.de hb (by decide)
    · exact ⟨Int.mul_pos (den_pos _) (by omega), (Bt.mul (a := 2101) (show Bt 2101 ((fract (t * ((n : Int) : Rat))).den : Int) from bf.de) hb).mono (by decide)⟩) ?_
  rw [less_made hn]
theorem ev_times_less {ds : Env} {ta : TA} {t : Rat} {n : Nat} (e : EvA K ta ds [fr t, I (n : Int)]) (hb : Hyp (0 < n ∧ Bt 101 (n : Int) ∧ Bd 2000 t)) : EvS K (tCall (spS K PTimesLess) [] E0 ta) ds (.p (fr (fract (t * ((n : Int) : Rat)) / ((n : Int) : Rat)))) := ev_call e ⟨hb.1, hb.2.1, hb.2.2⟩
local macro_rules | `(tactic| walk_at "ev") => `(tactic| ((with_reducible apply ev_times_less) <;> walk_at "ev"))
/-! ### told -/
abbrev s_told : Stmt := topS 40
theorem sc_told : FnScope ["hands", "first", "size", "at", "hand", "more", "lack", "found"] ["hands"] (defScope s_told) := ⟨rfl, rfl, rfl, by decide +kernel, rfl, by decide +kernel, by decide +kernel⟩

inductive PTold (CA CT CN : Addr) : List D → S → Prop
  | mk {l : List Hd} (h : HsOk l) : PTold CA CT CN [hs l] (ansS CA CT CN (toldF l))
/-- what holds between two hands -/
structure TInv (l : List Hd) (z0 : Hd) (i : Nat) (first : Rat) (size : Nat) : Prop where
  le : i ≤ l.length
  eq : loopT z0 (l.take i) (l.drop i) first size = toldF l
  iv : InvT z0 (l.take i) first size
  bd : 0 < size → first.den < 2 ^ 502 ∧ -((i : Int) : Rat) ≤ first ∧ first ≤ ((i : Int) : Rat) ∧ Bt 101 (size : Int)
theorem TInv.first {l : List Hd} {z0 : Hd} (hv : HsOk l) {i : Nat} {first : Rat} {size : Nat} (I : TInv l z0 i first size) (hz : 0 < size) : Bd 600 first := by
  obtain ⟨a, b, c, _⟩ := I.bd hz
  have hi : ((i : Int)).natAbs < 2 ^ 7 := by have := I.le; have := hv.len; omega
  exact (val_num a hi b c).mono (by decide)
theorem ok_told {CA CT CN : Addr} (T : Txt K mg CA CT CN) (F : FunAt K mg "told" s_told) (b : Bl mg) (i_At : ICallee P w K mg base CT 1 ["self", "first", "every"] (spI2 CT "first" "every")) (i_Never : ICallee P w K mg base CN 1 ["self", "some"] (spIL K CN "some"))
    (c_asked_hands : Callee P w K mg base "asked_hands" 5 ["hands"] (spS K PAskedHands)) (c_minus : Callee P w K mg base "minus" 4 ["one", "other"] (spS K PMinus)) (c_made : Callee P w K mg base "made" 2 ["above", "below"] (spS K PMade))
    (c_brought : Callee P w K mg base "brought" 5 ["first", "size", "more", "lack"] (spS K PBrought)) (c_never_of : Callee P w K mg base "never_of" 6 ["hands", "last"] (spS K (PNeverOf CN))) (c_times_less : Callee P w K mg base "times_less" 4 ["time", "size"] (spS K PTimesLess)) :
    Callee P w K mg base "told" 7 ["hands"] (spS K (PTold CA CT CN)) := by
  refine callee_mk F sc_told (fun _ _ _ _ _ _ us hl => match us, hl with | [_], _ => rfl) (by rintro _ _ ⟨⟩; rfl) (fun f cdv A outer sh H E as r hr hp => ?_)
  cases hp with
  | @mk l hv =>
  refine ⟨_, (pss_cons (ps_expr (pe_fn c_asked_hands (hr.mono (by decide)) rfl (pa_cons (pv 0) pa_nil)))
      (pss_cons (ps_set (i := 1) sc_told.nd rfl (by first | exact Or.inl rfl | exact Or.inr rfl) (pe_tup (pa_cons pe_int (pa_cons pe_int pa_nil))))
      (pss_cons (ps_set (i := 2) sc_told.nd rfl (by first | exact Or.inl rfl | exact Or.inr rfl) pe_int)
      (pss_cons (ps_for PassesOwn.never rfl (pi_enum rfl b.enum_ (pa_cons (pv 0) pa_nil)) (gT (K := K) (n := 2) rfl (pgs_cons (pg_name (i := 3) sc_told.nd rfl (by first | exact Or.inl rfl | exact Or.inr rfl)) (pgs_cons (pg_name (i := 4) sc_told.nd rfl (by first | exact Or.inl rfl | exact Or.inr rfl)) pgs_nil))) (pss_cons (ps_set (i := 5) sc_told.nd rfl (by first | exact Or.inl rfl | exact Or.inr rfl) (pSub (pIx (K := K) (pv 4) pe_int) (pIx (K := K) (pIx (K := K) (pv 0) pe_int) pe_int)))
      (pss_cons (ps_set (i := 6) sc_told.nd rfl (by first | exact Or.inl rfl | exact Or.inr rfl) (pe_fn c_minus (hr.mono (by decide)) rfl (pa_cons (pIx (K := K) (pIx (K := K) (pv 0) pe_int) pe_int) (pa_cons (pIx (K := K) (pv 4) pe_int) pa_nil))))
      (pss_cons (ps_if (PW.pt (pw_and (qEq (K := K) hr (pv 5) pe_int) (pw_and1 (qNe (K := K) hr (pIx (K := K) (pv 6) pe_int) pe_int)))) (pss_one (ps_ret (pe_mk i_Never (hr.mono (by decide)) rfl T.mNever (pa_cons (pe_lst (pa_cons pe_int (pa_cons (pv 3) pa_nil))) pa_nil)))) pss_nil)
      (pss_one (ps_if (PW.pt (pw_and (qNe (K := K) hr (pv 5) pe_int) (pw_and1 (qEq (K := K) hr (pv 2) pe_int)))) (pss_cons (ps_set (i := 2) sc_told.nd rfl (by first | exact Or.inl rfl | exact Or.inr rfl) (pe_callB call_abs rfl b.abs_ bt_abs (pa_cons (pv 5) pa_nil)))
      (pss_one (ps_set (i := 1) sc_told.nd rfl (by first | exact Or.inl rfl | exact Or.inr rfl) (pe_fn c_made (hr.mono (by decide)) rfl (pa_cons (pe_ifExp (qGt (pv 5) pe_int) (pIx (K := K) (pv 6) pe_int) (pNeg (pIx (K := K) (pv 6) pe_int))) (pa_cons (pMul (pIx (K := K) (pv 6) pe_int) (pv 2)) pa_nil)))))) (pss_one (ps_if (qNe (K := K) hr (pv 5) pe_int) (pss_cons (ps_set (i := 7) sc_told.nd rfl (by first | exact Or.inl rfl | exact Or.inr rfl) (pe_fn c_brought (hr.mono (by decide)) rfl (pa_cons (pv 1) (pa_cons (pv 2) (pa_cons (pv 5) (pa_cons (pv 6) pa_nil))))))
      (pss_cons (ps_if (pt_cmpR op_isN (pv 7) pe_non (nomark _)) (pss_one (ps_ret (pe_fn c_never_of (hr.mono (by decide)) rfl (pa_cons (pv 0) (pa_cons (pv 3) pa_nil))))) pss_nil)
      (pss_one (ps_asg (pv 7) (gT (K := K) (n := 2) rfl (pgs_cons (pg_name (i := 1) sc_told.nd rfl (by first | exact Or.inl rfl | exact Or.inr rfl)) (pgs_cons (pg_name (i := 2) sc_told.nd rfl (by first | exact Or.inl rfl | exact Or.inr rfl)) pgs_nil))))))) pss_nil))))))))
      (pss_cons (ps_if (qEq (K := K) hr (pv 2) pe_int) (pss_one (ps_ret (pe_makeO T.cAlways.mks T.iAlways T.cAlways.kp rfl T.mAlways))) pss_nil)
      (pss_one (ps_ret (pe_mk i_At (hr.mono (by decide)) rfl T.mAt (pa_cons (pe_fn c_times_less (hr.mono (by decide)) rfl (pa_cons (pv 1) (pa_cons (pv 2) pa_nil))) (pa_cons (pe_tup (pa_cons pe_int (pa_cons (pv 2) pa_nil))) pa_nil)))))))))), ?_⟩
  try dsimp only [cxOf]
  refine sd_seq (sd_drop (by walk_at "ev" <;> exact hv) ?_)
  refine sd_seq (sd_set (s := .p (fr 0)) (ev_is (s := .p (.tup [I 0, I 1])) (by walk_at "ev") rfl) ?_)
  refine sd_seq (sd_set (s := .p (I ((0 : Nat) : Int))) (ev_is (s := .p (I 0)) (by walk_at "ev") rfl) ?_)
  generalize hH : l.getD 0 (0, 0) = z0
  refine sd_seq (sd_for (gv := [3, 4]) (ei_enum (xs := l.map hd) (by walk_at "ev")) (fun i ds => ∃ first size x3 x4 x5 x6 x7, ds = [some (.p (hs l)), some (.p (fr first)), some (.p (I ((size : Nat) : Int))), x3, x4, x5, x6, x7] ∧ TInv l z0 i first size)
    ⟨0, 0, none, none, none, none, none, rfl, ⟨Nat.zero_le _, by rw [← hH]; rfl, inv_start _, fun z => absurd z (by decide)⟩⟩ ?_ ?_)
  · rintro i d ds hdq ⟨first, size, x3, x4, x5, x6, x7, rfl, TI⟩
    have hi : i < l.length := by
      have := (List.getElem?_eq_some_iff.mp hdq).1
      rw [enumD_len, List.length_map] at this
      exact this
    obtain ⟨h, hq⟩ : ∃ h, l[i]? = some h := ⟨l[i], List.getElem?_eq_getElem hi⟩
    rw [enumD_get (d := hd h) (by rw [List.getElem?_map, hq]; rfl)] at hdq
    cases hdq
    have h0 : l[0]? = some z0 := by
      rw [← hH, List.getD_eq_getElem?_getD, List.getElem?_eq_getElem (by omega)]
      rfl
    have tk : l.take (i + 1) = l.take i ++ [h] := by rw [List.take_succ, hq]; rfl
    have dr : l.drop i = h :: l.drop (i + 1) := by rw [List.drop_eq_getElem_cons hi, (List.getElem?_eq_some_iff.mp hq).2]
    have lt : (l.take i).length = i := by rw [List.length_take]; omega
    have eq := TI.eq
    rw [dr] at eq
    unfold loopT at eq
    have hh := hv.all h (List.mem_of_getElem? hq)
    have hh0 := hv.all _ (List.mem_of_getElem? h0)
    have bl : Bd 401 (z0.2 - h.2) := hh0.bs.sub hh.bs
    have bm : Bt 101 (h.1 - z0.1) := hh.br.sub hh0.br
    refine sg_pair ?_
    refine sd_seq (sd_set (s := .p (I (h.1 - z0.1))) (ev_sub (by walk_at "ev") (ev_t0 (a := I z0.1) (xs := [fr z0.2]) (ev_h0 (by walk_at "ev") h0))) ?_)
    refine sd_seq (sd_set (s := .p (fr (z0.2 - h.2))) (ev_minus (ea_cons (ev_t1 (a := I z0.1) (b := fr z0.2) (xs := []) (ev_h0 (by walk_at "ev") h0)) (by walk_at "ev")) ⟨200, 200, hh0.bs, hh.bs, by decide⟩) ?_)
    refine sd_seq (sd_if (et_and (by walk_at "ev") fun _ => (by walk_at "ev")) (fun e => ?_) (fun e => sd_next ?_))
    · have e' : h.1 - z0.1 = 0 ∧ (z0.2 - h.2).num ≠ 0 := by simpa using e
      rw [if_pos e'.1, if_pos e'.2, lt] at eq
      refine sd_ret (en_makeL (xs := [I 0, I (i : Int)]) (ea_cons (EvS.pure (by walk_at "ev")) ea_nil)) ?_
      rw [← eq]
      rfl
    · have e' : h.1 - z0.1 = 0 → (z0.2 - h.2).num = 0 := by simpa using e
      refine sd_if (et_and (by walk_at "ev") fun _ => (by walk_at "ev")) (fun e2 => ?_) (fun e2 => ?_)
      · have e3 : ¬ h.1 - z0.1 = 0 ∧ size = 0 := by
          have : ¬ h.1 - z0.1 = 0 ∧ (size : Int) = 0 := by simpa using e2
          omega
        rw [if_neg e3.1, if_pos e3.2] at eq
        have hs0 := e3.2
        subst hs0
        have bsz : Bt 101 ((h.1 - z0.1).natAbs : Int) := bm.abs
        refine sd_seq (sd_set (by walk_at "ev") ?_)
        refine sd_set (s := .p (fr ((z0.2 - h.2) / ((h.1 - z0.1 : Int) : Rat)))) (ev_is (ev_made (x := if 0 < h.1 - z0.1 then (z0.2 - h.2).num else -(z0.2 - h.2).num) (y := ((z0.2 - h.2).den : Int) * ((h.1 - z0.1).natAbs : Int)) (ea_cons (ev_if (b := decide (0 < h.1 - z0.1)) (by walk_at "ev") (fun q => by rw [if_pos (of_decide_eq_true q)]; walk_at "ev") (fun q => by rw [if_neg (of_decide_eq_false q)]; walk_at "ev")) (ea_cons (by walk_at "ev" <;> exact CM.of (a := 401) bl.de bsz (by decide)) ea_nil)) ⟨Int.mul_pos (den_pos _) (by omega), (Bt.mul (a := 401) (show Bt 401 ((z0.2 - h.2).den : Int) from bl.de) bsz).mono (by decide)⟩) (by rw [first_made e3.1])) ?_
        refine ⟨(z0.2 - h.2) / ((h.1 - z0.1 : Int) : Rat), (h.1 - z0.1).natAbs, _, _, _, _, _, rfl, ⟨hi, ?_, ?_, fun _ => ?_⟩⟩
        · rw [tk]; exact eq
        · rw [tk]; exact inv_first TI.iv e3.1
        · have I2 := inv_first (h := h) TI.iv e3.1
          have hsol := I2.sol (by omega) h (List.mem_append_right _ (List.mem_singleton.mpr rfl))
          have hd1 : -1 ≤ z0.2 - h.2 := by have := hh0.lo; have := hh.hi; grind
          have hd2 : z0.2 - h.2 ≤ 1 := by have := hh0.hi; have := hh.lo; grind
          obtain ⟨s1, s2⟩ := div_small e3.1 hd1 hd2
          exact ⟨sol_den e3.1 bm bl.de hsol, cast_le s1, cast_ge s2, bsz⟩
      · refine sd_if (by walk_at "ev") (fun e4 => ?_) (fun e4 => sd_next ?_)
        · have hr0 : ¬ h.1 - z0.1 = 0 := by simpa using e4
          have hz : 0 < size := by
            have : ¬ h.1 - z0.1 = 0 → ¬ (size : Int) = 0 := by simpa using e2
            have := this hr0
            omega
          rw [if_neg hr0, if_neg (by omega)] at eq
          have bf := TI.first hv hz
          have bz := (TI.bd hz).2.2.2
          refine sd_seq (sd_set (s := broughtS (broughtF first size (h.1 - z0.1) (z0.2 - h.2))) (ev_brought (by walk_at "ev") ⟨hz, bz, bm, bf, bl⟩) ?_)
          cases hb : broughtF first size (h.1 - z0.1) (z0.2 - h.2) with
          | none =>
            rw [hb] at eq
            dsimp only at eq
            have hip : 0 < (l.take i).length := by
              rcases Nat.eq_zero_or_pos i with q | q
              · exfalso
                subst q
                rw [h0] at hq
                cases hq
                exact hr0 (Int.sub_self _)
              · omega
            refine sd_seq (sd_if (b := true) (et_test (ev_op (a := dN) (b := dN) (s := .p (B true)) (by walk_at "ev") (by walk_at "ev") (rd_val fun H Q q => ⟨rfl, q⟩))) (fun _ => ?_) (fun q => by cases q))
            refine sd_ret (ev_never_of (l := l) (p := l.take i) (rest := l.drop (i + 1)) (h0 := z0) (h := h) (by rw [lt]; walk_at "ev") ⟨hv, by rw [← dr, List.take_append_drop], h0, hip⟩) ?_
            rw [← eq]
            rfl
          | some fs =>
            obtain ⟨f', s'⟩ := fs
            rw [hb] at eq
            dsimp only at eq
            obtain ⟨v1, v2, v3, v4⟩ := brought_bd hz hb
            obtain ⟨I2, hs'⟩ := inv_more (h := h) TI.iv hz hr0 hb
            refine sd_seq (sd_if (b := false) (et_test (ev_op (a := .tup [fr f', I (s' : Int)]) (b := dN) (s := .p (B false)) (by walk_at "ev") (by walk_at "ev") (fun G H x y Q e hx hy q => by
              cases hy
              cases hx with
              | tup k1 k2 => exact ⟨rfl, q _ G H (.refl e) (.val _)⟩))) (fun q => by cases q) (fun _ => sd_next ?_))
            refine sd_asg (gv := [1, 2]) (d := .tup [fr f', I (s' : Int)]) (by walk_at "ev") (sg_pair ?_)
            refine ⟨f', s', _, _, _, _, _, rfl, ⟨hi, by rw [tk]; exact eq, by rw [tk]; exact I2, fun _ => ?_⟩⟩
            have hsol := I2.sol hs' h (List.mem_append_right _ (List.mem_singleton.mpr rfl))
            obtain ⟨_, w2, w3, w4⟩ := TI.bd hz
            have cs := cast_succ i
            refine ⟨sol_den hr0 bm bl.de hsol, ?_, ?_, Nat.lt_of_le_of_lt (show _ ≤ (size : Int).natAbs by omega) w4⟩
            · rw [cs]; grind
            · rw [cs]; grind
        · have hr0 : h.1 - z0.1 = 0 := by simpa using e4
          have hs0 : z0.2 - h.2 = 0 := Rat.num_eq_zero.mp (e' hr0)
          rw [if_pos hr0, if_neg (by rw [e' hr0]; exact fun q => q rfl)] at eq
          refine ⟨first, size, _, _, _, _, _, rfl, ⟨hi, by rw [tk]; exact eq, by rw [tk]; exact inv_same TI.iv hr0 hs0, fun q => ?_⟩⟩
          obtain ⟨w1, w2, w3, w4⟩ := TI.bd q
          have cs := cast_succ i
          refine ⟨w1, ?_, ?_, w4⟩
          · rw [cs]; grind
          · rw [cs]; grind
  · rintro ds ⟨first, size, x3, x4, x5, x6, x7, rfl, TI⟩
    have eq := TI.eq
    have el : (enumD (l.map hd)).length = l.length := by rw [enumD_len, List.length_map]
    rw [el, List.drop_length] at eq
    unfold loopT at eq
    refine sd_seq (sd_if (by walk_at "ev") (fun e => ?_) (fun e => sd_next ?_))
    · have e' : size = 0 := by
        have : (size : Int) = 0 := by simpa using e
        omega
      rw [if_pos e'] at eq
      refine sd_ret ev_make0 ?_
      rw [← eq]
      rfl
    · have e' : ¬ size = 0 := by
        have : ¬ (size : Int) = 0 := by simpa using e
        omega
      rw [if_neg e'] at eq
      have hz : 0 < size := by omega
      refine sd_ret (ev_make2 (ea_cons (ev_times_less (by walk_at "ev") ⟨hz, (TI.bd hz).2.2.2, (TI.first hv hz).mono (by decide)⟩) (by walk_at "ev"))) ?_
      rw [← eq]
      rfl
theorem ev_told {CA CT CN : Addr} {ds : Env} {ta : TA} {l : List Hd} (e : EvA K ta ds [hs l]) (hb : Hyp (HsOk l)) : EvS K (tCall (spS K (PTold CA CT CN)) [] E0 ta) ds (ansS CA CT CN (toldF l)) := ev_call e ⟨hb⟩
def ansD (CA CT CN : Addr) : Ans → D
  | .always => .ins CA []
  | .at_ q n => .ins CT [("first", fr q), ("every", .tup [I 1, I (n : Int)])]
  | .never ks => .ins CN [("some", .lst (ks.map I))]
theorem ev_toldP {CA CT CN : Addr} {ds : Env} {ta : TA} {l : List Hd} (e : EvA K ta ds [hs l]) (hb : Hyp (HsOk l)) : EvS K (tCall (spS K (PTold CA CT CN)) [] E0 ta) ds (.p (ansD CA CT CN (toldF l))) := by
  have h := ev_told (CA := CA) (CT := CT) (CN := CN) e hb
  cases q : toldF l with
  | always => rw [q] at h; exact h
  | at_ a n => rw [q] at h; exact h
  | never ks => rw [q] at h; exact h.pureN
def isA : Ans → Bool
  | .always => true
  | _ => false
def isAt : Ans → Bool
  | .at_ _ _ => true
  | _ => false
def isNv : Ans → Bool
  | .never _ => true
  | _ => false
theorem ev_ansA {CA CT CN : Addr} (T : Txt K mg CA CT CN) {ds : Env} {ta : TA} {r : Ans} (e : EvA K ta ds [ansD CA CT CN r, .val (.ref CA)]) : EvS K (tCB (rIsi K) ta) ds (.p (B (isA r))) := by
  cases r with
  | always => exact ev_isiC e ⟨.ins _ T.cAlways.it, T.kAA⟩
  | at_ q n => exact ev_isiC e ⟨.ins _ T.cAt.it, T.kTA⟩
  | never ks => exact ev_isiC e ⟨.ins _ T.cNever.it, T.kNA⟩
theorem ev_ansT {CA CT CN : Addr} (T : Txt K mg CA CT CN) {ds : Env} {ta : TA} {r : Ans} (e : EvA K ta ds [ansD CA CT CN r, .val (.ref CT)]) : EvS K (tCB (rIsi K) ta) ds (.p (B (isAt r))) := by
  cases r with
  | always => exact ev_isiC e ⟨.ins _ T.cAlways.it, T.kAT⟩
  | at_ q n => exact ev_isiC e ⟨.ins _ T.cAt.it, T.kTT⟩
  | never ks => exact ev_isiC e ⟨.ins _ T.cNever.it, T.kNT⟩
theorem ev_ansN {CA CT CN : Addr} (T : Txt K mg CA CT CN) {ds : Env} {ta : TA} {r : Ans} (e : EvA K ta ds [ansD CA CT CN r, .val (.ref CN)]) : EvS K (tCB (rIsi K) ta) ds (.p (B (isNv r))) := by
  cases r with
  | always => exact ev_isiC e ⟨.ins _ T.cAlways.it, T.kAN⟩
  | at_ q n => exact ev_isiC e ⟨.ins _ T.cAt.it, T.kTN⟩
  | never ks => exact ev_isiC e ⟨.ins _ T.cNever.it, T.kNN⟩

/-! ### next_time, count: where there is such a time -/
theorem HsOk.dig {l : List Hd} (hv : HsOk l) : ∀ h ∈ l, h.2.den < 2 ^ 200 ∧ h.2.num.natAbs < 2 ^ 200 ∧ h.1.natAbs < 2 ^ 100 := fun h hh => ⟨(hv.all h hh).bs.de, (hv.all h hh).bs.nu, (hv.all h hh).br⟩
theorem HsOk.pt {l : List Hd} (hv : HsOk l) : ∀ h ∈ l, 0 ≤ h.2 ∧ h.2 < 1 := fun h hh => ⟨(hv.all h hh).lo, (hv.all h hh).hi⟩
theorem HsOk.at_ {l : List Hd} (hv : HsOk l) {q : Rat} {n : Nat} (h : toldF l = .at_ q n) : ToldOk l (.at_ q n) ∧ Bd 510 q ∧ Bt 101 (n : Int) ∧ 0 < n := by
  have ok := told_ok hv.pt
  rw [h] at ok
  obtain ⟨a, b⟩ := told_bd hv.dig ok
  exact ⟨ok, a, b, ok.1⟩
theorem fr_one {n : Nat} (hn : 0 < n) : fr (Rat.divInt 1 (n : Int)) = .tup [I 1, I (n : Int)] := by
  obtain ⟨a, b⟩ := one_made hn
  unfold fr
  rw [a, b]
theorem ev_fldF {CT : Addr} {ds : Env} {te : TE} {q : Rat} {n : Nat} (c : Cls K CT) (h : NoAttr K CT "first") (e : EvS K te ds (.p (.ins CT [("first", fr q), ("every", .tup [I 1, I (n : Int)])]))) : EvS K (tFld K te "first") ds (.p (fr q)) := ev_fld e c h rfl
theorem ev_fldE {CT : Addr} {ds : Env} {te : TE} {a e : D} (c : Cls K CT) (h : NoAttr K CT "every") (ev : EvS K te ds (.p (.ins CT [("first", a), ("every", e)]))) : EvS K (tFld K te "every") ds (.p e) := ev_fld ev c h (by
  show (match ("every" : Str) == "first" with | true => some a | false => List.lookup ("every" : Str) [("every", e)]) = some e
  have : (("every" : Str) == "first") = false := by decide +kernel
  rw [this]
  rfl)
abbrev s_next_time : Stmt := topS 42
theorem sc_next_time : FnScope ["hands", "time", "found", "behind"] ["hands", "time"] (defScope s_next_time) := ⟨rfl, rfl, rfl, by decide +kernel, rfl, by decide +kernel, by decide +kernel⟩

inductive PNextTime : List D → S → Prop
  | mk {l : List Hd} {t q : Rat} {n : Nat} (h : HsOk l) (ht : Bd 1000 t) (e : toldF l = .at_ q n) : PNextTime [hs l, fr t] (.p (fr (nextF q n t)))
theorem next_bd {q t : Rat} {n : Nat} (hq : Bd 510 q) (ht : Bd 1000 t) (hn : Bt 101 (n : Int)) : Bd 1511 (q - t) := hq.sub ht
theorem ok_next_time {CA CT CN : Addr} (T : Txt K mg CA CT CN) (F : FunAt K mg "next_time" s_next_time) (b : Bl mg) (c_told : Callee P w K mg base "told" 7 ["hands"] (spS K (PTold CA CT CN))) (c_asked_time : Callee P w K mg base "asked_time" 3 ["time"] (spS K PAskedTime))
    (c_times_less : Callee P w K mg base "times_less" 4 ["time", "size"] (spS K PTimesLess)) (c_minus : Callee P w K mg base "minus" 4 ["one", "other"] (spS K PMinus)) (c_plus : Callee P w K mg base "plus" 3 ["one", "other"] (spS K PPlus)) :
    Callee P w K mg base "next_time" 8 ["hands", "time"] (spS K PNextTime) := by
  refine callee_mk F sc_next_time (fun _ _ _ _ _ _ us hl => match us, hl with | [_, _], _ => rfl) (by rintro _ _ ⟨⟩; rfl) (fun f cdv A outer sh H E as r hr hp => ?_)
  cases hp with
  | @mk l t q n hv ht e =>
  refine ⟨_, (pss_cons (ps_set (i := 2) sc_next_time.nd rfl (by first | exact Or.inl rfl | exact Or.inr rfl) (pe_fn c_told (hr.mono (by decide)) rfl (pa_cons (pv 0) pa_nil)))
      (pss_cons (ps_expr (pe_fn c_asked_time (hr.mono (by decide)) rfl (pa_cons (pv 1) pa_nil)))
      (pss_cons (ps_if (pt_not (pt_val (pe_callB (kIsi (K := K)) rfl b.isi_ bt_isi (pa_cons (pv 2) (pa_cons (pe_glob (v := .ref _) rfl T.mAt rfl) pa_nil))))) (pss_one ps_never) pss_nil)
      (pss_cons (ps_set (i := 3) sc_next_time.nd rfl (by first | exact Or.inl rfl | exact Or.inr rfl) (pe_fn c_times_less (hr.mono (by decide)) rfl (pa_cons (pe_fn c_minus (hr.mono (by decide)) rfl (pa_cons (pFld (K := K) (pv 2) rfl) (pa_cons (pv 1) pa_nil))) (pa_cons (pIx (K := K) (pFld (K := K) (pv 2) rfl) pe_int) pa_nil))))
      (pss_one (ps_ret (pe_fn c_plus (hr.mono (by decide)) rfl (pa_cons (pv 1) (pa_cons (pe_ifExp (qGt (pIx (K := K) (pv 3) pe_int) pe_int) (pv 3) (pFld (K := K) (pv 2) rfl)) pa_nil))))))))), ?_⟩
  try dsimp only [cxOf]
  obtain ⟨ok, bq, bn, hn⟩ := hv.at_ e
  have ecl := T.cAt.it.cl
  refine sd_seq (sd_set (s := .p (ansD CA CT CN (toldF l))) (ev_toldP (by walk_at "ev") hv) ?_)
  rw [e]
  refine sd_seq (sd_drop (by walk_at "ev") ?_)
  refine sd_seq (sd_if (b := false) (et_is (et_not (a := true) (et_B (ev_isiC (C := CT) (by walk_at "ev") ⟨.ins _ T.cAt.it, T.kTT⟩))) rfl) (fun z => by cases z) (fun _ => sd_next ?_))
  have bd := next_bd bq ht bn
  have bl : Bd 1713 (fract ((q - t) * ((n : Int) : Rat)) / ((n : Int) : Rat)) := by
    rw [← less_made hn]
    have b1 : Bd 1612 (fract ((q - t) * ((n : Int) : Rat))) := (bd.mulI bn).fract
    exact made_bd (Int.mul_pos (den_pos _) (by omega)) (Nat.lt_of_lt_of_le b1.nu (Nat.pow_le_pow_right (by decide) (by decide))) (Bt.mul (a := 1612) (show Bt 1612 ((fract ((q - t) * ((n : Int) : Rat))).den : Int) from b1.de) bn) (by decide)
  refine sd_seq (sd_set (ev_times_less (t := q - t) (n := n) (ea_cons (ev_minus (ea_cons (ev_fldF ecl T.nFirst (by walk_at "ev")) (by walk_at "ev")) ⟨510, 1000, bq, ht, by decide⟩) (ea_cons (ev_t1 (ev_fldE ecl T.nEvery (by walk_at "ev"))) ea_nil)) ⟨hn, bn, bd.mono (by decide)⟩) ?_)
  have b1n : Bd 102 (Rat.divInt 1 (n : Int)) := made_bd (n := 102) (by omega) (by show 1 < 2 ^ 102; decide) (Bt.mono bn (by decide)) (by decide)
  refine sd_ret (ev_plus (p := t) (q := if 0 < (fract ((q - t) * ((n : Int) : Rat)) / ((n : Int) : Rat)).num then fract ((q - t) * ((n : Int) : Rat)) / ((n : Int) : Rat) else Rat.divInt 1 (n : Int)) (ea_cons (by walk_at "ev") (ea_cons (ev_if (b := decide (0 < (fract ((q - t) * ((n : Int) : Rat)) / ((n : Int) : Rat)).num)) (by walk_at "ev") (fun z => by rw [if_pos (of_decide_eq_true z)]; walk_at "ev") (fun z => by
    rw [if_neg (of_decide_eq_false z), fr_one hn]
    exact ev_fldE ecl T.nEvery (by walk_at "ev"))) ea_nil)) ⟨1000, 1713, ht, by split; exact bl; exact b1n.mono (by decide), by decide, by decide⟩) ?_
  unfold nextF
  rw [← Rat.sub_eq_add_neg]
theorem ev_next_time {ds : Env} {ta : TA} {l : List Hd} {t q : Rat} {n : Nat} (ev : EvA K ta ds [hs l, fr t]) (hb : Hyp (HsOk l ∧ Bd 1000 t ∧ toldF l = .at_ q n)) : EvS K (tCall (spS K PNextTime) [] E0 ta) ds (.p (fr (nextF q n t))) := ev_call ev ⟨hb.1, hb.2.1, hb.2.2⟩
noncomputable def countF (l : List Hd) (s t : Rat) : Int := match toldF l with
  | .at_ q n => if s < t then cnt q n t - cnt q n s else 0
  | _ => 0
abbrev s_count : Stmt := topS 43
theorem sc_count : FnScope ["hands", "begin", "end", "found", "size", "behind", "ahead"] ["hands", "begin", "end"] (defScope s_count) := ⟨rfl, rfl, rfl, by decide +kernel, rfl, by decide +kernel, by decide +kernel⟩

inductive PCount : List D → S → Prop
  | mk {l : List Hd} {s t : Rat} (h : HsOk l) (hs' : Bd 1000 s) (ht : Bd 1000 t) (e : toldF l ≠ .always) : PCount [hs l, fr s, fr t] (.p (I (countF l s t)))
theorem ok_count {CA CT CN : Addr} (T : Txt K mg CA CT CN) (F : FunAt K mg "count" s_count) (b : Bl mg) (c_told : Callee P w K mg base "told" 7 ["hands"] (spS K (PTold CA CT CN))) (c_asked_time : Callee P w K mg base "asked_time" 3 ["time"] (spS K PAskedTime))
    (c_less : Callee P w K mg base "less" 1 ["one", "other"] (spS K PLess)) (c_minus : Callee P w K mg base "minus" 4 ["one", "other"] (spS K PMinus)) (c_times : Callee P w K mg base "times" 3 ["one", "number"] (spS K PTimes)) :
    Callee P w K mg base "count" 8 ["hands", "begin", "end"] (spS K PCount) := by
  refine callee_mk F sc_count (fun _ _ _ _ _ _ us hl => match us, hl with | [_, _, _], _ => rfl) (by rintro _ _ ⟨⟩; rfl) (fun f cdv A outer sh H E as r hr hp => ?_)
  cases hp with
  | @mk l s t hv bs ht e =>
  refine ⟨_, (pss_cons (ps_set (i := 3) sc_count.nd rfl (by first | exact Or.inl rfl | exact Or.inr rfl) (pe_fn c_told (hr.mono (by decide)) rfl (pa_cons (pv 0) pa_nil)))
      (pss_cons (ps_expr (pe_fn c_asked_time (hr.mono (by decide)) rfl (pa_cons (pv 1) pa_nil)))
      (pss_cons (ps_expr (pe_fn c_asked_time (hr.mono (by decide)) rfl (pa_cons (pv 2) pa_nil)))
      (pss_cons (ps_if (pt_val (pe_callB (kIsi (K := K)) rfl b.isi_ bt_isi (pa_cons (pv 3) (pa_cons (pe_glob (v := .ref _) rfl T.mAlways rfl) pa_nil)))) (pss_one ps_never) pss_nil)
      (pss_cons (ps_if (PW.pt (pw_or (pt_val (pe_callB (kIsi (K := K)) rfl b.isi_ bt_isi (pa_cons (pv 3) (pa_cons (pe_glob (v := .ref _) rfl T.mNever rfl) pa_nil)))) (pw_or1 (pt_not (pt_val (pe_fn c_less (hr.mono (by decide)) rfl (pa_cons (pv 1) (pa_cons (pv 2) pa_nil)))))))) (pss_one (ps_ret pe_int)) pss_nil)
      (pss_cons (ps_set (i := 4) sc_count.nd rfl (by first | exact Or.inl rfl | exact Or.inr rfl) (pIx (K := K) (pFld (K := K) (pv 3) rfl) pe_int))
      (pss_cons (ps_set (i := 5) sc_count.nd rfl (by first | exact Or.inl rfl | exact Or.inr rfl) (pe_fn c_times (hr.mono (by decide)) rfl (pa_cons (pe_fn c_minus (hr.mono (by decide)) rfl (pa_cons (pv 2) (pa_cons (pFld (K := K) (pv 3) rfl) pa_nil))) (pa_cons (pv 4) pa_nil))))
      (pss_cons (ps_set (i := 6) sc_count.nd rfl (by first | exact Or.inl rfl | exact Or.inr rfl) (pe_fn c_times (hr.mono (by decide)) rfl (pa_cons (pe_fn c_minus (hr.mono (by decide)) rfl (pa_cons (pv 1) (pa_cons (pFld (K := K) (pv 3) rfl) pa_nil))) (pa_cons (pv 4) pa_nil))))
      (pss_one (ps_ret (pAdd (pNeg (pDiv (pNeg (pIx (K := K) (pv 5) pe_int)) (pIx (K := K) (pv 5) pe_int))) (pDiv (pNeg (pIx (K := K) (pv 6) pe_int)) (pIx (K := K) (pv 6) pe_int))))))))))))), ?_⟩
  try dsimp only [cxOf]
  refine sd_seq (sd_set (s := .p (ansD CA CT CN (toldF l))) (ev_toldP (by walk_at "ev") hv) ?_)
  refine sd_seq (sd_drop (by walk_at "ev") (sd_seq (sd_drop (by walk_at "ev") ?_)))
  unfold countF
  cases q' : toldF l with
  | always => exact absurd q' e
  | never ks =>
    refine sd_seq (sd_if (b := false) (et_B (ev_isiC (C := CA) (by walk_at "ev") ⟨.ins _ T.cNever.it, T.kNA⟩)) (fun z => by cases z) (fun _ => sd_next ?_))
    exact sd_seq (sd_if (b := true) (et_or (a := true) (b := true) (et_B (ev_isiC (C := CN) (by walk_at "ev") ⟨.ins _ T.cNever.it, T.kNN⟩)) (fun z => by cases z)) (fun _ => sd_ret (by walk_at "ev") rfl) (fun z => by cases z))
  | at_ q n =>
    obtain ⟨ok, bq, bn, hn⟩ := hv.at_ q'
    have ecl := T.cAt.it.cl
    dsimp only
    refine sd_seq (sd_if (b := false) (et_B (ev_isiC (C := CA) (by walk_at "ev") ⟨.ins _ T.cAt.it, T.kTA⟩)) (fun z => by cases z) (fun _ => sd_next ?_))
    refine sd_seq (sd_if (et_or (a := false) (et_B (ev_isiC (C := CN) (by walk_at "ev") ⟨.ins _ T.cAt.it, T.kTN⟩)) fun _ => (by walk_at "ev" <;> exact ⟨1000, 1000, bs, ht, by decide⟩)) (fun z => ?_) (fun z => sd_next ?_))
    · have z' : ¬ s < t := by simpa using z
      rw [if_neg z']
      exact sd_ret (by walk_at "ev") rfl
    · have z' : s < t := by simpa using z
      rw [if_pos z']
      have b1 : Bd 1612 ((t - q) * ((n : Int) : Rat)) := (ht.sub bq).mulI bn
      have b2 : Bd 1612 ((s - q) * ((n : Int) : Rat)) := (bs.sub bq).mulI bn
      refine sd_seq (sd_set (ev_t1 (ev_fldE ecl T.nEvery (by walk_at "ev"))) ?_)
      refine sd_seq (sd_set (ev_times (p := t - q) (k := (n : Int)) (ea_cons (ev_minus (ea_cons (by walk_at "ev") (ea_cons (ev_fldF ecl T.nFirst (by walk_at "ev")) ea_nil)) ⟨1000, 510, ht, bq, by decide⟩) (by walk_at "ev")) ⟨1511, 101, ht.sub bq, bn, by decide, by decide⟩) ?_)
      refine sd_seq (sd_set (ev_times (p := s - q) (k := (n : Int)) (ea_cons (ev_minus (ea_cons (by walk_at "ev") (ea_cons (ev_fldF ecl T.nFirst (by walk_at "ev")) ea_nil)) ⟨1000, 510, bs, bq, by decide⟩) (by walk_at "ev")) ⟨1511, 101, bs.sub bq, bn, by decide, by decide⟩) ?_)
      refine sd_ret (by
        walk_at "ev"
        · exact Bt.div (b := 1612) (den_pos _) b1.de (by decide) (by decide)
        · exact Bt.div (b := 1612) (den_pos _) b2.de (by decide) (by decide)) ?_
      unfold cnt
      rw [← Rat.sub_eq_add_neg, ← Rat.sub_eq_add_neg]
      congr 3
      omega
theorem ev_count {ds : Env} {ta : TA} {l : List Hd} {s t : Rat} (ev : EvA K ta ds [hs l, fr s, fr t]) (hb : Hyp (HsOk l ∧ Bd 1000 s ∧ Bd 1000 t ∧ toldF l ≠ .always)) : EvS K (tCall (spS K PCount) [] E0 ta) ds (.p (I (countF l s t))) := ev_call ev ⟨hb.1, hb.2.1, hb.2.2.1, hb.2.2.2⟩
local macro_rules | `(tactic| walk_at "ev") => `(tactic| ((with_reducible apply ev_count) <;> walk_at "ev"))

/-! ### groups -/
def keyR (q : Rat) : List Int := [q.num, (q.den : Int)]
theorem keyR_inj {p q : Rat} (h : keyR p = keyR q) : p = q := by
  unfold keyR at h
  injection h with h1 h2
  injection h2 with h2 _
  exact Rat.ext h1 (by omega)
def plF (l : List Hd) (t : Rat) (i : Nat) : Rat := plc (l.getD i (0, 0)) t
def natI (j : Nat) : D := I (j : Int)
def grD (l : List Hd) (t : Rat) (n : Nat) : List (List Int × List D) := (grF (plF l t) n).map fun e => (keyR e.1, e.2.map natI)
def grL (l : List Hd) (t : Rat) : List (List D) := (grF (plF l t) l.length).map fun e => e.2.map natI
abbrev s_groups : Stmt := topS 24
theorem sc_groups : FnScope ["hands", "time", "found", "at", "hand", "place"] ["hands", "time"] (defScope s_groups) := ⟨rfl, rfl, rfl, by decide +kernel, rfl, by decide +kernel, by decide +kernel⟩

inductive PGroups : List D → S → Prop
  | mk {l : List Hd} {t : Rat} (h : HsOk l) (ht : Bd 1000 t) : PGroups [hs l, fr t] (.q (grL l t))
theorem ok_groups (F : FunAt K mg "groups" s_groups) (b : Bl mg) (c_asked_hands : Callee P w K mg base "asked_hands" 5 ["hands"] (spS K PAskedHands)) (c_asked_time : Callee P w K mg base "asked_time" 3 ["time"] (spS K PAskedTime)) (c_place_of : Callee P w K mg base "place_of" 4 ["hand", "time"] (spS K PPlaceOf)) :
    Callee P w K mg base "groups" 6 ["hands", "time"] (spS K PGroups) := by
  refine callee_mk F sc_groups (fun _ _ _ _ _ _ us hl => match us, hl with | [_, _], _ => rfl) (by rintro _ _ ⟨⟩; rfl) (fun f cdv A outer sh H E as r hr hp => ?_)
  cases hp with
  | @mk l t h ht =>
  refine ⟨_, (pss_cons (ps_expr (pe_fn c_asked_hands (hr.mono (by decide)) rfl (pa_cons (pv 0) pa_nil)))
      (pss_cons (ps_expr (pe_fn c_asked_time (hr.mono (by decide)) rfl (pa_cons (pv 1) pa_nil)))
      (pss_cons (ps_set (i := 2) sc_groups.nd rfl (by first | exact Or.inl rfl | exact Or.inr rfl) pe_dnewT)
      (pss_cons (ps_for PassesOwn.never rfl (pi_enum rfl b.enum_ (pa_cons (pv 0) pa_nil)) (gT (K := K) (n := 2) rfl (pgs_cons (pg_name (i := 3) sc_groups.nd rfl (by first | exact Or.inl rfl | exact Or.inr rfl)) (pgs_cons (pg_name (i := 4) sc_groups.nd rfl (by first | exact Or.inl rfl | exact Or.inr rfl)) pgs_nil))) (pss_cons (ps_set (i := 5) sc_groups.nd rfl (by first | exact Or.inl rfl | exact Or.inr rfl) (pe_fn c_place_of (hr.mono (by decide)) rfl (pa_cons (pv 4) (pa_cons (pv 1) pa_nil))))
      (pss_cons (ps_if (pt_cmp (pc_dnotin (hu1 hr) (pv 5) (pv 2))) (pss_one (ps_dput (hu1 hr) (pv 2) (pv 5) (pe_lst pa_nil) rfl)) pss_nil)
      (pss_one (ps_expr (kBM (K := K) (pe_bm PySem.F.plainAttrs_list PySem.F.slot_list_append PySem.F.type_list_append mt_append (pe_dget (hu1 hr) (pv 2) (pv 5) (fun _ _ => rfl)) (pa_cons (pv 3) pa_nil))))))))
      (pss_one (ps_ret (pe_listVals rfl (pv 2) rfl b.list_ bt_list))))))), ?_⟩
  try dsimp only [cxOf]
  have l63 := h.len
  refine sd_seq (sd_drop (by walk_at "ev" <;> exact h) (sd_seq (sd_drop (by walk_at "ev") ?_)))
  refine sd_seq (sd_set (s := .g []) ev_dnew ?_)
  walk_at "nrm"
  refine sd_seqFor (gv := [3, 4]) (ei_enum (xs := l.map hd) (by walk_at "ev")) (fun i => [some (.p (hs l)), some (.p (fr t)), some (.g (grD l t i)), none, none, none]) (Sub.refl _) ?_ ?_
  · intro i d hd'
    have hi : i < l.length := by
      have := (List.getElem?_eq_some_iff.mp hd').1
      rw [enumD_len, List.length_map] at this
      exact this
    have hq : l[i]? = some (l.getD i (0, 0)) := by
      rw [List.getD_eq_getElem?_getD, List.getElem?_eq_getElem hi]
      rfl
    rw [enumD_get (d := hd (l.getD i (0, 0))) (by rw [List.getElem?_map, hq]; rfl)] at hd'
    cases hd'
    have hk := h.all _ (List.mem_of_getElem? hq)
    have hpl : plF l t i = plc (l.getD i (0, 0)) t := rfl
    refine sg_pair ?_
    walk_at "nrm"
    refine sd_seq (sd_set (s := .p (.tup ((keyR (plF l t i)).map I))) (ev_is (s := .p (fr (plc (l.getD i (0, 0)) t))) (by walk_at "ev" <;> exact ⟨hk.bs, hk.br, ht⟩) rfl) ?_)
    walk_at "nrm"
    have any_eq : ((grD l t i).any fun x => decide (x.1 = keyR (plF l t i))) = (grF (plF l t) i).any fun e => decide (e.1 = plF l t i) := by
      unfold grD
      rw [List.any_map]
      congr 1
      funext e
      show decide (keyR e.1 = keyR (plF l t i)) = _
      exact decide_eq_decide.mpr ⟨keyR_inj, fun z => by rw [z]⟩
    have len_i : (grD l t i).length ≤ i := by
      unfold grD
      rw [List.length_map]
      exact gr_len
    refine sd_seq (sd_if (et_notin (i := 2) (k := keyR (plF l t i)) rfl (ev_var rfl)) (fun e => ?_) (fun e => sd_next ?_))
    · have hn : ∀ j, j < i → plF l t j ≠ plF l t i := fun j hj z => by
        have : ((grD l t i).any fun x => decide (x.1 = keyR (plF l t i))) = true := by rw [any_eq]; exact gr_any.mpr ⟨j, hj, z⟩
        rw [this] at e
        cases e
      obtain ⟨g1, g2⟩ := gr_new hn
      refine sd_dput (i := 2) (kvs := grD l t i) (k := keyR (plF l t i)) rfl rfl (ev_var rfl) (fun x hx z => ?_) (by omega) ?_
      · unfold grD at hx
        obtain ⟨e', he', rfl⟩ := List.mem_map.mp hx
        exact g2 e' he' (keyR_inj z)
      walk_at "nrm"
      refine sd_dapp (i := 2) (pre := grD l t i) (k := keyR (plF l t i)) (xs := []) (post := []) (d := natI i) rfl rfl (ev_var rfl) (ev_var rfl) (fun x hx z => ?_) (by decide) ?_
      · unfold grD at hx
        obtain ⟨e', he', rfl⟩ := List.mem_map.mp hx
        exact g2 e' he' (keyR_inj z)
      have : grD l t (i + 1) = grD l t i ++ [(keyR (plF l t i), [natI i])] := by
        unfold grD
        rw [g1, List.map_append]
        rfl
      rw [this]
      walk_at "nrm"
      exact .keep (.keep (.keep (.drop (.drop (.drop .nil)))))
    · have ho : ∃ j, j < i ∧ plF l t j = plF l t i := by
        have : ((grD l t i).any fun x => decide (x.1 = keyR (plF l t i))) = true := by
          have : (!((grD l t i).any fun x => decide (x.1 = keyR (plF l t i)))) = false := e
          simpa using this
        rw [any_eq] at this
        exact gr_any.mp this
      obtain ⟨pre, xs, post, g1, g2, g3, g4⟩ := gr_old ho
      have e1 : grD l t i = pre.map (fun e => (keyR e.1, e.2.map natI)) ++ (keyR (plF l t i), xs.map natI) :: post.map (fun e => (keyR e.1, e.2.map natI)) := by
        unfold grD
        rw [g1, List.map_append, List.map_cons]
      have e2 : grD l t (i + 1) = pre.map (fun e => (keyR e.1, e.2.map natI)) ++ (keyR (plF l t i), xs.map natI ++ [natI i]) :: post.map (fun e => (keyR e.1, e.2.map natI)) := by
        unfold grD
        rw [g3, List.map_append, List.map_cons]
        dsimp only
        rw [List.map_append]
        rfl
      rw [e1, e2]
      refine sd_dapp (i := 2) (d := natI i) rfl rfl (ev_var rfl) (ev_var rfl) (fun x hx z => ?_) (by rw [List.length_map]; omega) ?_
      · obtain ⟨e', he', rfl⟩ := List.mem_map.mp hx
        exact g2 e' he' (keyR_inj z)
      walk_at "nrm"
      exact .keep (.keep (.keep (.drop (.drop (.drop .nil)))))
  · rw [enumD_len, List.length_map]
    refine sd_retVals (i := 2) rfl ?_
    unfold grD grL
    rw [List.map_map]
    rfl
theorem ev_groups {ds : Env} {ta : TA} {l : List Hd} {t : Rat} (e : EvA K ta ds [hs l, fr t]) (hb : Hyp (HsOk l ∧ Bd 1000 t)) : EvS K (tCall (spS K PGroups) [] E0 ta) ds (.q (grL l t)) := ev_call e ⟨hb.1, hb.2⟩
theorem ev_groupsP {ds : Env} {ta : TA} {l : List Hd} {t : Rat} (e : EvA K ta ds [hs l, fr t]) (hb : Hyp (HsOk l ∧ Bd 1000 t)) : EvS K (tCall (spS K PGroups) [] E0 ta) ds (.p (.lst ((grL l t).map D.lst))) := (ev_groups e hb).pureQ

/-! ### what the answers show -/
theorem ev_fldF2 {CT : Addr} {ds : Env} {te : TE} {a e : D} (c : Cls K CT) (h : NoAttr K CT "first") (ev : EvS K te ds (.p (.ins CT [("first", a), ("every", e)]))) : EvS K (tFld K te "first") ds (.p a) := ev_fld ev c h rfl
theorem getD0 {l : List Hd} {x : Hd} (hx : x ∈ l) : l[0]? = some (l.getD 0 (0, 0)) := by
  rw [List.getD_eq_getElem?_getD, List.getElem?_eq_getElem (List.length_pos_of_mem hx)]
  rfl
theorem pair_eq (a b c d : Int) : eqD (.tup [I a, I b]) (.tup [I c, I d]) = decide (a = c ∧ b = d) := by
  show ((a == c) && ((b == d) && true)) = _
  by_cases h1 : a = c <;> by_cases h2 : b = d <;> simp [h1, h2]
theorem ints_pl (ks : List Int) : pl 1 (.lst (ks.map I)) = true := by
  show (ks.map I).all (pl 0) = true
  rw [List.all_map]
  exact List.all_eq_true.mpr fun _ _ => rfl
theorem ints_pi (ks : List Int) : pi 1 (.lst (ks.map I)) = true := by
  show (ks.map I).all (pi 0) = true
  rw [List.all_map]
  exact List.all_eq_true.mpr fun _ _ => rfl
theorem ints_inj {ks ms : List Int} (h : ks.map I = ms.map I) : ks = ms := (List.map_inj_right fun _ _ z => by injection z with z; injection z).mp h
theorem ints_eq (ks ms : List Int) : eqD (.lst (ks.map I)) (.lst (ms.map I)) = decide (ks = ms) := by
  by_cases h : ks = ms
  · subst h; rw [eqD_refl (ints_pi ks)]; simp
  · rw [eqD_not (ints_pi ks) (ints_pi ms) fun z => h (ints_inj (by injection z))]; simp [h]
theorem frs_pl (l : List Rat) : pl 2 (.lst (l.map fr)) = true := by
  show (l.map fr).all (pl 1) = true
  rw [List.all_map]
  exact List.all_eq_true.mpr fun _ _ => rfl
theorem frs_pi (l : List Rat) : pi 2 (.lst (l.map fr)) = true := by
  show (l.map fr).all (pi 1) = true
  rw [List.all_map]
  exact List.all_eq_true.mpr fun _ _ => rfl
theorem frs_eq (l m : List Rat) : eqD (.lst (l.map fr)) (.lst (m.map fr)) = decide (l = m) := by
  by_cases h : l = m
  · subst h; rw [eqD_refl (frs_pi l)]; simp
  · rw [eqD_not (frs_pi l) (frs_pi m) fun z => h ((List.map_inj_right fun _ _ z => fr_inj z).mp (by injection z))]; simp [h]
theorem idx_at {l : List Hd} {k : Int} (h0 : 0 ≤ k) (h1 : k < (l.length : Int)) : l[k.toNat]? = some (idxH l k) := by
  unfold idxH
  rw [List.getD_eq_getElem?_getD, List.getElem?_eq_getElem (by omega)]
  rfl
theorem ev_hk {ds : Env} {te ti : TE} {l : List Hd} {k : Int} (e : EvS K te ds (.p (hs l))) (ei : EvS K ti ds (.p (I k))) (h0 : 0 ≤ k) (h1 : k < (l.length : Int)) : EvS K (tOp (rIxA K) te ti) ds (.p (hd (idxH l k))) :=
  ev_hi (i := k.toNat) e (by rw [Int.toNat_of_nonneg h0]; exact ei) (idx_at h0 h1)
theorem idx_ok {l : List Hd} (h : HsOk l) {k : Int} (h0 : 0 ≤ k) (h1 : k < (l.length : Int)) : HOk (idxH l k) := h.all _ (List.mem_of_getElem? (idx_at h0 h1))
abbrev s_Always_shows : Stmt := inClass (topS 33) 0
theorem sc_Always_shows : FnScope ["self", "hands", "hand"] ["self", "hands"] (defScope s_Always_shows) := ⟨rfl, rfl, rfl, by decide +kernel, rfl, by decide +kernel, by decide +kernel⟩

inductive PShowsA (CA : Addr) : List D → S → Prop
  | mk {l : List Hd} (h : HsOk l) : PShowsA CA [.ins CA [], hs l] (.p (B (alikeB l)))
theorem ok_Always_shows {CA CT CN : Addr} (T : Txt K mg CA CT CN) (F : MethAt K CA "shows" "Always.shows" s_Always_shows) (b : Bl mg) : MCallee P w K mg base CA "shows" 1 ["self", "hands"] (spS K (PShowsA CA)) := by
  refine mcallee_mk F sc_Always_shows (fun _ _ _ _ _ _ us hl => match us, hl with | [_, _], _ => rfl) (by rintro _ _ ⟨⟩; rfl) (fun f cdv A outer sh H E as r hr hp => ?_)
  cases hp with
  | @mk l h =>
  refine ⟨_, (pss_one (ps_ret (pe_callB (kAll (K := K) rfl) rfl b.all_ bt_all (pa_cons (pe_lc (own := [("hand", 2)]) (g := (gName 2)) rfl sc_Always_shows.nd (iL (K := K) (pv 1)) (blkOk_by (N := ["self", "hands", "hand"]) (sc := defScope s_Always_shows) (own := [("hand", 2)]) (by decide +kernel)) (fun _ _ _ _ _ => (pg_name (i := 2) sc_Always_shows.nd rfl (by first | exact Or.inl rfl | exact Or.inr rfl))) (fun _ _ _ _ _ => pts_nil) (fun _ _ _ _ _ => (pEq (K := K) hr (pv 2) (pIx (K := K) (pv 1) pe_int)))) pa_nil)))), ?_⟩
  try dsimp only [cxOf]
  refine sd_ret (ev_allM (l := l) (f := fun h => decide (h = l.getD 0 (0, 0))) (ea_cons (EvS.pure (ev_lcM (gv := [2]) (l := l) (fa := hd) (ei_list (ev_var rfl)) (Nat.le_trans h.len (by decide)) (by decide) fun x hx => sg_name (by
    rw [← eq_hd]
    exact ev_eqD 2 (by walk_at "ev") (ev_h0 (by walk_at "ev") (getD0 hx)) ⟨rfl, rfl, by decide⟩))) ea_nil)) rfl
abbrev s_At_shows : Stmt := inClass (topS 34) 1
theorem sc_At_shows : FnScope ["self", "hands", "hand"] ["self", "hands"] (defScope s_At_shows) := ⟨rfl, rfl, rfl, by decide +kernel, rfl, by decide +kernel, by decide +kernel⟩

inductive PShowsT (CT : Addr) : List D → S → Prop
  | mk {l : List Hd} {a b c d : Int} (h : HsOk l) (ha : Bt 1000 a) (hb : Bt 1000 b) (hc : Bt 1000 c) (hd : Bt 1000 d) : PShowsT CT [.ins CT [("first", .tup [I a, I b]), ("every", .tup [I c, I d])], hs l] (.p (B (atG l a b c d)))
theorem ok_At_shows {CA CT CN : Addr} (T : Txt K mg CA CT CN) (F : MethAt K CT "shows" "At.shows" s_At_shows) (b : Bl mg) (c_is_fraction : Callee P w K mg base "is_fraction" 2 ["thing"] (spS K PIsFraction)) (c_gap : Callee P w K mg base "gap" 2 ["hands"] (spS K PGap)) (c_less : Callee P w K mg base "less" 1 ["one", "other"] (spS K PLess)) (c_place_of : Callee P w K mg base "place_of" 4 ["hand", "time"] (spS K PPlaceOf)) :
    MCallee P w K mg base CT "shows" 5 ["self", "hands"] (spS K (PShowsT CT)) := by
  refine mcallee_mk F sc_At_shows (fun _ _ _ _ _ _ us hl => match us, hl with | [_, _], _ => rfl) (by rintro _ _ ⟨⟩; rfl) (fun f cdv A outer sh H E as r hr hp => ?_)
  cases hp with
  | @mk l a b' c d h ha hb hc hd' =>
  refine ⟨_, (pss_cons (ps_if (PW.pt (pw_or (pt_not (pt_val (pe_fn c_is_fraction (hr.mono (by decide)) rfl (pa_cons (pFld (K := K) (pv 0) rfl) pa_nil)))) (pw_or (pt_not (pt_val (pe_fn c_is_fraction (hr.mono (by decide)) rfl (pa_cons (pFld (K := K) (pv 0) rfl) pa_nil)))) (pw_or1 (qLt (pIx (K := K) (pFld (K := K) (pv 0) rfl) pe_int) pe_int))))) (pss_one (ps_ret pe_bl)) pss_nil)
      (pss_cons (ps_if (PW.pt (pw_or (qNe (K := K) hr (pFld (K := K) (pv 0) rfl) (pe_tup (pa_cons pe_int (pa_cons (pe_fn c_gap (hr.mono (by decide)) rfl (pa_cons (pv 1) pa_nil)) pa_nil)))) (pw_or1 (pt_not (pt_val (pe_fn c_less (hr.mono (by decide)) rfl (pa_cons (pFld (K := K) (pv 0) rfl) (pa_cons (pFld (K := K) (pv 0) rfl) pa_nil)))))))) (pss_one (ps_ret pe_bl)) pss_nil)
      (pss_one (ps_ret (pe_callB (kAll (K := K) rfl) rfl b.all_ bt_all (pa_cons (pe_lc (own := [("hand", 2)]) (g := (gName 2)) rfl sc_At_shows.nd (iL (K := K) (pv 1)) (blkOk_by (N := ["self", "hands", "hand"]) (sc := defScope s_At_shows) (own := [("hand", 2)]) (by decide +kernel)) (fun _ _ _ _ _ => (pg_name (i := 2) sc_At_shows.nd rfl (by first | exact Or.inl rfl | exact Or.inr rfl))) (fun _ _ _ _ _ => pts_nil) (fun _ _ _ _ _ => (pEq (K := K) hr (pe_fn c_place_of (hr.mono (by decide)) rfl (pa_cons (pv 2) (pa_cons (pFld (K := K) (pv 0) rfl) pa_nil))) (pe_fn c_place_of (hr.mono (by decide)) rfl (pa_cons (pIx (K := K) (pv 1) pe_int) (pa_cons (pFld (K := K) (pv 0) rfl) pa_nil)))))) pa_nil)))))), ?_⟩
  try dsimp only [cxOf]
  have ecl := T.cAt.it.cl
  have l63 := h.len
  refine sd_seq (sd_if (b := !fracB a b' || (!fracB c d || decide (a < 0))) (et_or (et_not (et_B (ev_is (ev_is_fraction (d := .tup [I a, I b']) (ea_cons (ev_fldF2 ecl T.nFirst (by walk_at "ev")) ea_nil) rfl) (by rfl)))) fun _ => et_or (et_not (et_B (ev_is (ev_is_fraction (d := .tup [I c, I d]) (ea_cons (ev_fldE ecl T.nEvery (by walk_at "ev")) ea_nil) rfl) (by rfl)))) fun _ => et_test (ev_lt (ev_t0 (ev_fldF2 ecl T.nFirst (by walk_at "ev"))) (by walk_at "ev"))) (fun e => ?_) (fun e => sd_next ?_))
  · refine sd_ret (by walk_at "ev") ?_
    have : atG l a b' c d = false := by
      unfold atG
      cases h1 : fracB a b' with
      | false => rfl
      | true =>
        cases h2 : fracB c d with
        | false => rfl
        | true =>
          rw [h1, h2] at e
          have e' : a < 0 := of_decide_eq_true e
          rw [decide_eq_false (show ¬ 0 ≤ a by omega)]
          rfl
    rw [this]
  have e' : fracB a b' = true ∧ fracB c d = true ∧ 0 ≤ a := by
    cases h1 : fracB a b' with
    | false => rw [h1] at e; cases e
    | true =>
      cases h2 : fracB c d with
      | false => rw [h1, h2] at e; cases e
      | true =>
        rw [h1, h2] at e
        have := of_decide_eq_false e
        exact ⟨rfl, rfl, by omega⟩
  obtain ⟨f1, f2, a0⟩ := e'
  obtain ⟨b0, n1, d1⟩ := frac_rat f1
  obtain ⟨d0, n2, d2⟩ := frac_rat f2
  have hG : atG l a b' c d = (decide (c = 1 ∧ d = (gapF l : Int)) && (decide (Rat.divInt a b' < Rat.divInt c d) && togB l (Rat.divInt a b'))) := by
    unfold atG
    rw [f1, f2, decide_eq_true a0]
    rfl
  have bp : Bd 1000 (Rat.divInt a b') := ⟨by rw [n1]; exact ha, by have := hb; unfold Bt at this; omega⟩
  have bq : Bd 1000 (Rat.divInt c d) := ⟨by rw [n2]; exact hc, by have := hd'; unfold Bt at this; omega⟩
  have r1 : D.tup [I a, I b'] = fr (Rat.divInt a b') := by unfold fr; rw [n1, d1]
  have r2 : D.tup [I c, I d] = fr (Rat.divInt c d) := by unfold fr; rw [n2, d2]
  rw [hG]
  refine sd_seq (sd_if (b := !decide (c = 1 ∧ d = (gapF l : Int)) || !decide (Rat.divInt a b' < Rat.divInt c d)) (et_or (et_test (ev_is (ev_neD (b := .tup [I 1, I (gapF l : Int)]) 1 (ev_fldE ecl T.nEvery (by walk_at "ev")) (ev_tup (ea_cons (by walk_at "ev") (ea_cons (by walk_at "ev" <;> (show l.length ≤ 1000; omega)) ea_nil)) (hLen rfl)) ⟨rfl, rfl, by decide⟩) (by rw [pair_eq]))) fun _ => et_not (et_B (ev_less (p := Rat.divInt a b') (q := Rat.divInt c d) (ea_cons (by rw [← r1]; exact ev_fldF2 ecl T.nFirst (by walk_at "ev")) (ea_cons (by rw [← r2]; exact ev_fldE ecl T.nEvery (by walk_at "ev")) ea_nil)) ⟨1000, 1000, bp, bq, by decide⟩))) (fun e => ?_) (fun e => sd_next ?_))
  · refine sd_ret (by walk_at "ev") ?_
    have : (decide (c = 1 ∧ d = (gapF l : Int)) && (decide (Rat.divInt a b' < Rat.divInt c d) && togB l (Rat.divInt a b'))) = false := by
      cases h1 : decide (c = 1 ∧ d = (gapF l : Int)) with
      | false => rfl
      | true =>
        rw [h1] at e
        have : decide (Rat.divInt a b' < Rat.divInt c d) = false := by simpa using e
        rw [this]
        rfl
    rw [this]
  have : (decide (c = 1 ∧ d = (gapF l : Int)) && (decide (Rat.divInt a b' < Rat.divInt c d) && togB l (Rat.divInt a b'))) = togB l (Rat.divInt a b') := by
    rw [Bool.or_eq_false_iff] at e
    have h1 : decide (c = 1 ∧ d = (gapF l : Int)) = true := by simpa using e.1
    have h2 : decide (Rat.divInt a b' < Rat.divInt c d) = true := by simpa using e.2
    rw [h1, h2]
    rfl
  rw [this]
  refine sd_ret (ev_allM (l := l) (f := fun h => decide (plc h (Rat.divInt a b') = plc (l.getD 0 (0, 0)) (Rat.divInt a b'))) (ea_cons (EvS.pure (ev_lcM (gv := [2]) (l := l) (fa := hd) (ei_list (ev_var rfl)) (Nat.le_trans l63 (by decide)) (by decide) fun x hx => sg_name (by
    have hx' := h.all x hx
    have h0' := h.all _ (List.mem_of_getElem? (getD0 hx))
    rw [← eq_fr]
    exact ev_eqD 1 (ev_place_of (ea_cons (by walk_at "ev") (ea_cons (by rw [← r1]; exact ev_fldF2 ecl T.nFirst (by walk_at "ev")) ea_nil)) ⟨hx'.bs, hx'.br, bp⟩) (ev_place_of (ea_cons (ev_h0 (by walk_at "ev") (getD0 hx)) (ea_cons (by rw [← r1]; exact ev_fldF2 ecl T.nFirst (by walk_at "ev")) ea_nil)) ⟨h0'.bs, h0'.br, bp⟩) ⟨rfl, rfl, by decide⟩))) ea_nil)) rfl
abbrev s_Never_shows : Stmt := inClass (topS 35) 1
theorem sc_Never_shows : FnScope ["self", "hands", "which"] ["self", "hands"] (defScope s_Never_shows) := ⟨rfl, rfl, rfl, by decide +kernel, rfl, by decide +kernel, by decide +kernel⟩

inductive PShowsN (CN : Addr) : List D → S → Prop
  | mk {l : List Hd} {ks : List Int} (h : HsOk l) (hk : ks.length ≤ 60) : PShowsN CN [.ins CN [("some", .lst (ks.map I))], hs l] (.p (B (nevB l ks (decide (ks = sortU ks)))))
theorem ok_Never_shows {CA CT CN : Addr} (T : Txt K mg CA CT CN) (F : MethAt K CN "shows" "Never.shows" s_Never_shows) (b : Bl mg) (c_clash : Callee P w K mg base "clash" 5 ["one", "other", "third"] (spS K PClash)) : MCallee P w K mg base CN "shows" 6 ["self", "hands"] (spS K (PShowsN CN)) := by
  refine mcallee_mk F sc_Never_shows (fun _ _ _ _ _ _ us hl => match us, hl with | [_, _], _ => rfl) (by rintro _ _ ⟨⟩; rfl) (fun f cdv A outer sh H E as r hr hp => ?_)
  cases hp with
  | @mk l ks h hk =>
  refine ⟨_, (pss_cons (ps_if (PW.pt (pw_or (pt_not (pt_chain op_le op_le pe_int (pe_callB (kLen (K := K)) rfl b.len_ bt_len (pa_cons (pFld (K := K) (pv 0) rfl) pa_nil)) pe_int)) (pw_or1 (pt_not (pt_val (pe_callB (kAll (K := K) rfl) rfl b.all_ bt_all (pa_cons (pe_lc (own := [("which", 2)]) (g := (gName 2)) rfl sc_Never_shows.nd (iL (K := K) (pFld (K := K) (pv 0) rfl)) (blkOk_by (N := ["self", "hands", "which"]) (sc := defScope s_Never_shows) (own := [("which", 2)]) (by decide +kernel)) (fun _ _ _ _ _ => (pg_name (i := 2) sc_Never_shows.nd rfl (by first | exact Or.inl rfl | exact Or.inr rfl))) (fun _ _ _ _ _ => pts_nil) (fun _ _ _ _ _ => (pe_chain op_le op_lt pe_int (pv 2) (pe_callB (kLen (K := K)) rfl b.len_ bt_len (pa_cons (pv 1) pa_nil))))) pa_nil))))))) (pss_one (ps_ret pe_bl)) pss_nil)
      (pss_cons (ps_if (qNe (K := K) hr (pFld (K := K) (pv 0) rfl) (pe_callB (cr_sortedSet rfl) rfl b.sorted_ bt_sorted (pa_cons (pe_callTy (kSet (K := K) rfl (w := w)) rfl b.set_ bt_set (pa_cons (pFld (K := K) (pv 0) rfl) pa_nil)) pa_nil))) (pss_one (ps_ret pe_bl)) pss_nil)
      (pss_one (ps_ret (pe_fn c_clash (hr.mono (by decide)) rfl (pa_cons (pIx (K := K) (pv 1) (pIx (K := K) (pFld (K := K) (pv 0) rfl) pe_int)) (pa_cons (pIx (K := K) (pv 1) (pIx (K := K) (pFld (K := K) (pv 0) rfl) pe_int)) (pa_cons (pIx (K := K) (pv 1) (pIx (K := K) (pFld (K := K) (pv 0) rfl) (pNeg pe_int))) pa_nil)))))))), ?_⟩
  try dsimp only [cxOf]
  have ecl := T.cNever.it.cl
  have fS : ∀ {ds : Env} {te : TE}, EvS K te ds (.p (.ins CN [("some", .lst (ks.map I))])) → EvS K (tFld K te "some") ds (.p (.lst (ks.map I))) := fun e => ev_fld e ecl T.nSome rfl
  have lI : ((ks.map I).length : Int) = (ks.length : Int) := by rw [List.length_map]
  have l63 := h.len
  refine sd_seq (sd_if (b := !(decide ((2 : Int) ≤ (ks.length : Int)) && decide ((ks.length : Int) ≤ 3)) || !(ks.all fun k => decide (0 ≤ k) && decide (k < (l.length : Int)))) (et_or (et_not (et_test (ev_chain (by walk_at "ev") (ev_is (ev_lenL (xs := ks.map I) (ea_cons (fS (by walk_at "ev")) ea_nil)) (by rw [lI])) fun _ => (by walk_at "ev")))) fun _ => et_not (et_B (ev_allM (l := ks) (f := fun k => decide (0 ≤ k) && decide (k < (l.length : Int))) (ea_cons (EvS.pure (ev_lcM (gv := [2]) (l := ks) (fa := I) (ei_list (fS (by walk_at "ev"))) (Nat.le_trans hk (by decide)) (by decide) fun x hx => sg_name (ev_chain (i := 0) (j := x) (k := (l.length : Int)) (by walk_at "ev") (by walk_at "ev") fun _ => ev_is (ev_lenL (xs := l.map hd) (by walk_at "ev")) (by rw [List.length_map])))) ea_nil)))) (fun e => ?_) (fun e => sd_next ?_))
  · refine sd_ret (by walk_at "ev") ?_
    have : nevB l ks (decide (ks = sortU ks)) = false := by
      unfold nevB
      cases h1 : (decide (2 ≤ ks.length) && decide (ks.length ≤ 3)) with
      | false => rfl
      | true =>
        have h2 : (decide ((2 : Int) ≤ (ks.length : Int)) && decide ((ks.length : Int) ≤ 3)) = true := by
          rw [Bool.and_eq_true] at h1 ⊢
          have p1 := of_decide_eq_true h1.1
          have p2 := of_decide_eq_true h1.2
          exact ⟨decide_eq_true (by omega), decide_eq_true (by omega)⟩
        rw [h2] at e
        have h3 : (ks.all fun k => decide (0 ≤ k) && decide (k < (l.length : Int))) = false := by simpa using e
        rw [h3]
        rfl
    rw [this]
  rw [Bool.or_eq_false_iff] at e
  have e1 : (decide ((2 : Int) ≤ (ks.length : Int)) && decide ((ks.length : Int) ≤ 3)) = true := by simpa using e.1
  have e2 : (ks.all fun k => decide (0 ≤ k) && decide (k < (l.length : Int))) = true := by
    have := e.2
    rwa [Bool.not_eq_false'] at this
  rw [Bool.and_eq_true] at e1
  have p1 := of_decide_eq_true e1.1
  have p2 := of_decide_eq_true e1.2
  have hG : nevB l ks (decide (ks = sortU ks)) = (decide (ks = sortU ks) && clashF (idxH l (ks.getD 0 0)) (idxH l (ks.getD 1 0)) (idxH l (ks.getLastD 0))) := by
    unfold nevB
    rw [e2, decide_eq_true (show 2 ≤ ks.length by omega), decide_eq_true (show ks.length ≤ 3 by omega)]
    rfl
  rw [hG]
  refine sd_seq (sd_if (b := !decide (ks = sortU ks)) (et_test (ev_is (ev_neD (a := .lst (ks.map I)) (b := .lst ((sortU ks).map I)) 1 (fS (by walk_at "ev")) (EvS.pure (ev_sortU (ns := ks) (fS (by walk_at "ev")) (by show ks.length < 64; omega))) ⟨ints_pl _, ints_pl _, by decide⟩) (by rw [ints_eq]))) (fun e => ?_) (fun e => sd_next ?_))
  · refine sd_ret (by walk_at "ev") ?_
    have : decide (ks = sortU ks) = false := by simpa using e
    rw [this]
    rfl
  have e3 : decide (ks = sortU ks) = true := by simpa using e
  rw [e3, Bool.true_and]
  have hin : ∀ k ∈ ks, 0 ≤ k ∧ k < (l.length : Int) := fun k hk => by
    have := List.all_eq_true.mp e2 k hk
    rw [Bool.and_eq_true] at this
    exact ⟨of_decide_eq_true this.1, of_decide_eq_true this.2⟩
  have g0 : ks[0]? = some (ks.getD 0 0) := by rw [List.getD_eq_getElem?_getD, List.getElem?_eq_getElem (by omega)]; rfl
  have g1 : ks[1]? = some (ks.getD 1 0) := by rw [List.getD_eq_getElem?_getD, List.getElem?_eq_getElem (by omega)]; rfl
  have gl := last_some (ks := ks) fun z => by rw [z] at p1; exact absurd p1 (by decide)
  have i0 := hin _ (List.mem_of_getElem? g0)
  have i1 := hin _ (List.mem_of_getElem? g1)
  have il := hin _ (List.mem_of_getLast? gl)
  refine sd_ret (ev_clash (ea_cons (ev_hk (k := ks.getD 0 0) (by walk_at "ev") (ev_ixL (xs := ks.map I) (i := 0) (fS (by walk_at "ev")) (by walk_at "ev") (atI_nat (j := 0) (by rw [List.getElem?_map, g0]; rfl))) i0.1 i0.2) (ea_cons (ev_hk (k := ks.getD 1 0) (by walk_at "ev") (ev_ixL (xs := ks.map I) (i := 1) (fS (by walk_at "ev")) (by walk_at "ev") (atI_nat (j := 1) (by rw [List.getElem?_map, g1]; rfl))) i1.1 i1.2) (ea_cons (ev_hk (k := ks.getLastD 0) (by walk_at "ev") (ev_ixL (xs := ks.map I) (i := -1) (fS (by walk_at "ev")) (by walk_at "ev") (atI_lastD (by rw [List.getLast?_map, gl]; rfl))) il.1 il.2) ea_nil))) ⟨idx_ok h i0.1 i0.2, idx_ok h i1.1 i1.2, idx_ok h il.1 il.2⟩) rfl
theorem look_ne {f x : Str} {d : D} {t : List (Str × D)} (h : (f == x) = false) : List.lookup f ((x, d) :: t) = List.lookup f t := by rw [List.lookup_cons, h]
theorem look_T (a b : D) : List.lookup ("shows" : Str) [("first", a), ("every", b)] = none := by
  rw [look_ne (by decide +kernel), look_ne (by decide +kernel)]
  rfl
theorem look_N (a : D) : List.lookup ("shows" : Str) [("some", a)] = none := by
  rw [look_ne (by decide +kernel)]
  rfl
abbrev tShows (K : PySem.W.Frag) (CA CT CN : Addr) (to : TE) (t : TA) : TE := fun σ H Q => tMeth CA "shows" (spS K (PShowsA CA)) [] E0 to t σ H Q ∨ (fun σ H Q => tMeth CT "shows" (spS K (PShowsT CT)) [] E0 to t σ H Q ∨ tMeth CN "shows" (spS K (PShowsN CN)) [] E0 to t σ H Q) σ H Q
theorem ev_showsA {CA CT CN : Addr} {ds : Env} {te : TE} {ta : TA} {l : List Hd} (h : EvS K te ds (.p (.ins CA []))) (ha : EvA K ta ds [hs l]) (hl : HsOk l) : EvS K (tShows K CA CT CN te ta) ds (.p (B (alikeB l))) := ev_orL (ev_meth h rfl ha ⟨hl⟩)
theorem ev_showsT {CA CT CN : Addr} {ds : Env} {te : TE} {ta : TA} {l : List Hd} {a b c d : Int} (h : EvS K te ds (.p (.ins CT [("first", .tup [I a, I b]), ("every", .tup [I c, I d])]))) (ha : EvA K ta ds [hs l]) (hl : HsOk l) (hb : Bt 1000 a ∧ Bt 1000 b ∧ Bt 1000 c ∧ Bt 1000 d) : EvS K (tShows K CA CT CN te ta) ds (.p (B (atG l a b c d))) :=
  ev_orR (ev_orL (ev_meth h (look_T _ _) ha ⟨hl, hb.1, hb.2.1, hb.2.2.1, hb.2.2.2⟩))
theorem ev_showsN {CA CT CN : Addr} {ds : Env} {te : TE} {ta : TA} {l : List Hd} {ks : List Int} (h : EvS K te ds (.p (.ins CN [("some", .lst (ks.map I))]))) (ha : EvA K ta ds [hs l]) (hl : HsOk l) (hk : ks.length ≤ 60) : EvS K (tShows K CA CT CN te ta) ds (.p (B (nevB l ks (decide (ks = sortU ks))))) :=
  ev_orR (ev_orR (ev_meth h (look_N _) ha ⟨hl, hk⟩))
def showsB (l : List Hd) : Ans → Bool
  | .always => alikeB l
  | .at_ q n => atB l q n
  | .never ks => nevB l ks (decide (ks = sortU ks))
def AnsOk : Ans → Prop
  | .always => True
  | .at_ q n => Bd 510 q ∧ Bt 101 (n : Int) ∧ 0 < n
  | .never ks => ks.length ≤ 60
theorem ev_shows {CA CT CN : Addr} {ds : Env} {te : TE} {ta : TA} {l : List Hd} {r : Ans} (h : EvS K te ds (.p (ansD CA CT CN r))) (ha : EvA K ta ds [hs l]) (hl : HsOk l) (ok : AnsOk r) : EvS K (tShows K CA CT CN te ta) ds (.p (B (showsB l r))) := by
  cases r with
  | always => exact ev_showsA h ha hl
  | at_ q n =>
    obtain ⟨bq, bn, hn⟩ := ok
    show EvS K _ ds (.p (B (atB l q n)))
    rw [← atG_at hn]
    exact ev_showsT h ha hl ⟨Nat.lt_of_lt_of_le bq.nu (Nat.pow_le_pow_right (by decide) (by decide)), Nat.lt_of_lt_of_le (show (q.den : Int).natAbs < 2 ^ 510 from bq.de) (Nat.pow_le_pow_right (by decide) (by decide)), Nat.lt_of_lt_of_le (show (1 : Int).natAbs < 2 ^ 1 by decide) (Nat.pow_le_pow_right (by decide) (by decide)), bn.mono (by decide)⟩
  | never ks => exact ev_showsN h ha hl ok
theorem told_ansOk {l : List Hd} (h : HsOk l) : AnsOk (toldF l) := by
  have ok := told_ok h.pt
  cases q : toldF l with
  | always => trivial
  | at_ a n =>
    obtain ⟨_, a, b, c⟩ := h.at_ q
    exact ⟨a, b, c⟩
  | never ks =>
    rw [q] at ok
    have := (never_shows ok).2.2.2.1
    show ks.length ≤ 60
    omega
theorem told_shows {l : List Hd} (h : HsOk l) : showsB l (toldF l) = true := by
  have ok := told_ok h.pt
  cases q : toldF l with
  | always => rw [q] at ok; exact always_shows ok
  | at_ a n => rw [q] at ok; exact at_shows ok
  | never ks =>
    rw [q] at ok
    obtain ⟨h1, h2, _⟩ := never_shows ok
    show nevB l ks (decide (ks = sortU ks)) = true
    rw [decide_eq_true (sortU_eq h2).symm]
    exact h1

/-! ### what is refused -/
structure TxtX (K : PySem.W.Frag) (mg : Str → Option Value) (XD XB XM XH XO : Addr) : Prop where
  cDialError : ExcT K mg "DialError" XD
  cBadHands : ExcT K mg "BadHands" XB
  cBadTime : ExcT K mg "BadTime" XM
  cBadHand : ExcT K mg "BadHand" XH
  cNoTime : ExcT K mg "NoTime" XO
  sB : PySem.W.subIn K (.ref XB) (.ref XD) = some true
  sM : PySem.W.subIn K (.ref XM) (.ref XD) = some true
  sH : PySem.W.subIn K (.ref XH) (.ref XD) = some true
  sO : PySem.W.subIn K (.ref XO) (.ref XD) = some true
  kBB : PySem.W.kitOne K (.ref XB) (.ref XB) = some true
  kBM : PySem.W.kitOne K (.ref XB) (.ref XM) = some false
  kBH : PySem.W.kitOne K (.ref XB) (.ref XH) = some false
  kBO : PySem.W.kitOne K (.ref XB) (.ref XO) = some false
  kMB : PySem.W.kitOne K (.ref XM) (.ref XB) = some false
  kMM : PySem.W.kitOne K (.ref XM) (.ref XM) = some true
  kMH : PySem.W.kitOne K (.ref XM) (.ref XH) = some false
  kMO : PySem.W.kitOne K (.ref XM) (.ref XO) = some false
  kHB : PySem.W.kitOne K (.ref XH) (.ref XB) = some false
  kHM : PySem.W.kitOne K (.ref XH) (.ref XM) = some false
  kHH : PySem.W.kitOne K (.ref XH) (.ref XH) = some true
  kHO : PySem.W.kitOne K (.ref XH) (.ref XO) = some false
  kOB : PySem.W.kitOne K (.ref XO) (.ref XB) = some false
  kOM : PySem.W.kitOne K (.ref XO) (.ref XM) = some false
  kOH : PySem.W.kitOne K (.ref XO) (.ref XH) = some false
  kOO : PySem.W.kitOne K (.ref XO) (.ref XO) = some true
section
variable {XD XB XM XH XO : Addr}
theorem TxtX.mDialError (T : TxtX K mg XD XB XM XH XO) : mg "DialError" = some (.ref XD) := T.cDialError.m
theorem TxtX.mBadHands (T : TxtX K mg XD XB XM XH XO) : mg "BadHands" = some (.ref XB) := T.cBadHands.m
theorem TxtX.mBadTime (T : TxtX K mg XD XB XM XH XO) : mg "BadTime" = some (.ref XM) := T.cBadTime.m
theorem TxtX.mBadHand (T : TxtX K mg XD XB XM XH XO) : mg "BadHand" = some (.ref XH) := T.cBadHand.m
theorem TxtX.mNoTime (T : TxtX K mg XD XB XM XH XO) : mg "NoTime" = some (.ref XO) := T.cNoTime.m
theorem TxtX.exm (T : TxtX K mg XD XB XM XH XO) {C : Addr} (h : PySem.W.subIn K (.ref C) (.ref XD) = some true) : PySem.W.exmOne K (.ref C) (.ref XD) = some true := PySem.W.exm_ref T.cDialError.xc.hs T.cDialError.xc.hd T.cDialError.ty h
end
def handsD : D → Bool
  | .lst xs => xs.all handD
  | _ => false
inductive BadH : D → Prop
  | mk {d : D} (h : bi 3 d = true) (hl : ∀ xs, d = .lst xs → xs.length ≤ 1000) (hn : handsD d = false) : BadH d
inductive PAskedHandsX (XB : Addr) : List D → Addr → Prop
  | mk {d : D} (h : BadH d) : PAskedHandsX XB [d] XB
theorem xok_asked_hands {XD XB XM XH XO : Addr} (TX : TxtX K mg XD XB XM XH XO) (F : FunAt K mg "asked_hands" s_asked_hands) (b : Bl mg) (c_is_hand : Callee P w K mg base "is_hand" 4 ["thing"] (spS K PIsHand)) : CalleeX P w K mg base "asked_hands" 5 ["hands"] (spX K (PAskedHandsX XB)) := by
  refine callee_mkX F sc_asked_hands (fun _ _ _ _ _ _ us hl => match us, hl with | [_], _ => rfl) (by rintro _ _ ⟨⟩; rfl) (fun f cdv A outer sh H E as C hr hp => ?_)
  cases hp with
  | @mk d hd =>
  obtain ⟨h, hl, hn⟩ := hd
  refine ⟨_, (pss_one (ps_if (PW.pt (pw_or (pt_not (pt_val (pe_callB (kIsi (K := K)) rfl b.isi_ bt_isi (pa_cons (pv 0) (pa_cons (pe_bltn (v := .ty "list") rfl b.list_ bt_list rfl) pa_nil))))) (pw_or1 (pt_not (pt_val (pe_callB (kAll (K := K) rfl) rfl b.all_ bt_all (pa_cons (pe_lc (own := [("hand", 1)]) (g := (gName 1)) rfl sc_asked_hands.nd (iL (K := K) (pv 0)) (blkOk_by (N := ["hands", "hand"]) (sc := defScope s_asked_hands) (own := [("hand", 1)]) (by decide +kernel)) (fun _ _ _ _ _ => (pg_name (i := 1) sc_asked_hands.nd rfl (by first | exact Or.inl rfl | exact Or.inr rfl))) (fun _ _ _ _ _ => pts_nil) (fun _ _ _ _ _ => (pe_fn c_is_hand (hr.mono (by decide)) rfl (pa_cons (pv 1) pa_nil)))) pa_nil))))))) (pss_one (pRaise TX.cBadHands rfl (L2N.takes_of rfl rfl rfl rfl) rfl)) pss_nil)), ?_⟩
  try dsimp only [cxOf]
  have h0 : bi 0 d = true := bi_down h
  have sp : isL d = false ∨ ∃ xs, d = .lst xs := by cases d <;> first | exact .inr ⟨_, rfl⟩ | exact .inl rfl
  rcases sp with e | ⟨xs, rfl⟩
  · exact sx_if (b := true) (et_is (et_or (a := true) (b := true) (et_is (a := !isL d) (by walk_at "ev" <;> exact h0) (by rw [e]; rfl)) (fun z => by cases z)) rfl) (fun _ => sx_raise trivial) (fun z => by cases z)
  · refine sx_if (b := true) (et_is (et_or (a := false) (b := true) (et_is (a := !isL (.lst xs)) (by walk_at "ev" <;> exact h0) rfl) fun _ => et_is (et_not (et_B (ev_allM (l := xs) (f := handD) (ea_cons (EvS.pure (ev_lcM (gv := [1]) (l := xs) (fa := fun d => d) (ei_list (ev_is (s := .p (.lst xs)) (by walk_at "ev") (by rw [List.map_id']))) (hl xs rfl) (by decide) fun x hx => sg_name (by
      walk_at "ev"
      exact List.all_eq_true.mp (show xs.all (bi 2) = true from h) x hx))) ea_nil)))) (by rw [show xs.all handD = false from hn]; rfl)) rfl) (fun _ => sx_raise trivial) (fun z => by cases z)
inductive PAskedTimeX (XM : Addr) : List D → Addr → Prop
  | mk {d : D} (h : bi 1 d = true) (hn : fracD d = false) : PAskedTimeX XM [d] XM
theorem xok_asked_time {XD XB XM XH XO : Addr} (TX : TxtX K mg XD XB XM XH XO) (F : FunAt K mg "asked_time" s_asked_time) (b : Bl mg) (c_is_fraction : Callee P w K mg base "is_fraction" 2 ["thing"] (spS K PIsFraction)) : CalleeX P w K mg base "asked_time" 3 ["time"] (spX K (PAskedTimeX XM)) := by
  refine callee_mkX F sc_asked_time (fun _ _ _ _ _ _ us hl => match us, hl with | [_], _ => rfl) (by rintro _ _ ⟨⟩; rfl) (fun f cdv A outer sh H E as C hr hp => ?_)
  cases hp with
  | @mk d h hn =>
  refine ⟨_, (pss_one (ps_if (pt_not (pt_val (pe_fn c_is_fraction (hr.mono (by decide)) rfl (pa_cons (pv 0) pa_nil)))) (pss_one (pRaise TX.cBadTime rfl (L2N.takes_of rfl rfl rfl rfl) rfl)) pss_nil)), ?_⟩
  try dsimp only [cxOf]
  exact sx_if (b := true) (et_is (et_not (a := false) (et_B (ev_is (ev_is_fraction (d := d) (by walk_at "ev") h) (by rw [hn])))) rfl) (fun _ => sx_raise trivial) (fun z => by cases z)
inductive PToldX (XB : Addr) : List D → Addr → Prop
  | mk {d : D} (h : BadH d) : PToldX XB [d] XB
theorem xok_told {XD XB XM XH XO : Addr} (TX : TxtX K mg XD XB XM XH XO) (F : FunAt K mg "told" s_told) (b : Bl mg) (x_asked_hands : CalleeX P w K mg base "asked_hands" 5 ["hands"] (spX K (PAskedHandsX XB))) : CalleeX P w K mg base "told" 7 ["hands"] (spX K (PToldX XB)) := by
  refine callee_mkX F sc_told (fun _ _ _ _ _ _ us hl => match us, hl with | [_], _ => rfl) (by rintro _ _ ⟨⟩; rfl) (fun f cdv A outer sh H E as C hr hp => ?_)
  cases hp with
  | @mk d h =>
  refine ⟨_, (pss_cons (ps_expr (pe_fnS x_asked_hands (L2N.takes_of rfl rfl rfl rfl) (hr.mono (by decide)) rfl (pa_cons (pv 0) pa_nil)))
      pss_never), ?_⟩
  try dsimp only [cxOf]
  exact sx_seqR (sx_drop (evx_call (by walk_at "ev") ⟨h⟩) trivial)
inductive PNextTimeX (XB XM XO : Addr) : List D → Addr → Prop
  | hands {d t : D} (h : BadH d) : PNextTimeX XB XM XO [d, t] XB
  | time {l : List Hd} {d : D} (h : HsOk l) (hd : bi 1 d = true) (hn : fracD d = false) : PNextTimeX XB XM XO [hs l, d] XM
  | none {l : List Hd} {t : Rat} (h : HsOk l) (e : isAt (toldF l) = false) : PNextTimeX XB XM XO [hs l, fr t] XO
theorem xok_next_time {CA CT CN XD XB XM XH XO : Addr} (T : Txt K mg CA CT CN) (TX : TxtX K mg XD XB XM XH XO) (F : FunAt K mg "next_time" s_next_time) (b : Bl mg) (c_told : Callee P w K mg base "told" 7 ["hands"] (spS K (PTold CA CT CN))) (c_asked_time : Callee P w K mg base "asked_time" 3 ["time"] (spS K PAskedTime))
    (x_told : CalleeX P w K mg base "told" 7 ["hands"] (spX K (PToldX XB))) (x_asked_time : CalleeX P w K mg base "asked_time" 3 ["time"] (spX K (PAskedTimeX XM))) : CalleeX P w K mg base "next_time" 8 ["hands", "time"] (spX K (PNextTimeX XB XM XO)) := by
  refine callee_mkX F sc_next_time (fun _ _ _ _ _ _ us hl => match us, hl with | [_, _], _ => rfl) (by rintro _ _ ⟨⟩ <;> rfl) (fun f cdv A outer sh H E as C hr hp => ?_)
  cases hp with
  | @hands d t h =>
    refine ⟨_, (pss_cons (ps_set (i := 2) sc_next_time.nd rfl (by first | exact Or.inl rfl | exact Or.inr rfl) (pe_fnS x_told (L2N.takes_of rfl rfl rfl rfl) (hr.mono (by decide)) rfl (pa_cons (pv 0) pa_nil)))
      pss_never), ?_⟩
    try dsimp only [cxOf]
    exact sx_seqR (sx_asg (evx_call (by walk_at "ev") ⟨h⟩) trivial)
  | @time l d h hd hn =>
    refine ⟨_, (pss_cons (PS.nox (ps_set (i := 2) sc_next_time.nd rfl (by first | exact Or.inl rfl | exact Or.inr rfl) (pe_fn c_told (hr.mono (by decide)) rfl (pa_cons (pv 0) pa_nil))))
      (pss_cons (ps_expr (pe_fnS x_asked_time (L2N.takes_of rfl rfl rfl rfl) (hr.mono (by decide)) rfl (pa_cons (pv 1) pa_nil)))
      pss_never)), ?_⟩
    try dsimp only [cxOf]
    refine sx_seqP (sd_set (s := .p (ansD CA CT CN (toldF l))) (ev_toldP (by walk_at "ev") h) ?_)
    exact sx_seqR (sx_drop (evx_call (by walk_at "ev") ⟨hd, hn⟩) trivial)
  | @none l t h e =>
    refine ⟨_, (pss_cons (PS.nox (ps_set (i := 2) sc_next_time.nd rfl (by first | exact Or.inl rfl | exact Or.inr rfl) (pe_fn c_told (hr.mono (by decide)) rfl (pa_cons (pv 0) pa_nil))))
      (pss_cons (PS.nox (ps_expr (pe_fn c_asked_time (hr.mono (by decide)) rfl (pa_cons (pv 1) pa_nil))))
      (pss_cons (ps_if (pt_not (pt_val (pe_callB (kIsi (K := K)) rfl b.isi_ bt_isi (pa_cons (pv 2) (pa_cons (pe_glob (v := .ref _) rfl T.mAt rfl) pa_nil))))) (pss_one (pRaise TX.cNoTime rfl (L2N.takes_of rfl rfl rfl rfl) rfl)) pss_nil)
      pss_never))), ?_⟩
    try dsimp only [cxOf]
    refine sx_seqP (sd_set (s := .p (ansD CA CT CN (toldF l))) (ev_toldP (by walk_at "ev") h) ?_)
    refine sx_seqP (sd_drop (by walk_at "ev") ?_)
    exact sx_seqR (sx_if (b := true) (et_is (et_not (a := false) (et_B (ev_is (ev_ansT T (r := toldF l) (by walk_at "ev")) (by rw [e])))) rfl) (fun _ => sx_raise trivial) (fun z => by cases z))
inductive PCountX (XB XM XO : Addr) : List D → Addr → Prop
  | hands {d t u : D} (h : BadH d) : PCountX XB XM XO [d, t, u] XB
  | begin {l : List Hd} {d u : D} (h : HsOk l) (hd : bi 1 d = true) (hn : fracD d = false) : PCountX XB XM XO [hs l, d, u] XM
  | stop {l : List Hd} {t : Rat} {d : D} (h : HsOk l) (hd : bi 1 d = true) (hn : fracD d = false) : PCountX XB XM XO [hs l, fr t, d] XM
  | always {l : List Hd} {t u : Rat} (h : HsOk l) (e : toldF l = .always) : PCountX XB XM XO [hs l, fr t, fr u] XO
theorem xok_count {CA CT CN XD XB XM XH XO : Addr} (T : Txt K mg CA CT CN) (TX : TxtX K mg XD XB XM XH XO) (F : FunAt K mg "count" s_count) (b : Bl mg) (c_told : Callee P w K mg base "told" 7 ["hands"] (spS K (PTold CA CT CN))) (c_asked_time : Callee P w K mg base "asked_time" 3 ["time"] (spS K PAskedTime))
    (x_told : CalleeX P w K mg base "told" 7 ["hands"] (spX K (PToldX XB))) (x_asked_time : CalleeX P w K mg base "asked_time" 3 ["time"] (spX K (PAskedTimeX XM))) : CalleeX P w K mg base "count" 8 ["hands", "begin", "end"] (spX K (PCountX XB XM XO)) := by
  refine callee_mkX F sc_count (fun _ _ _ _ _ _ us hl => match us, hl with | [_, _, _], _ => rfl) (by rintro _ _ ⟨⟩ <;> rfl) (fun f cdv A outer sh H E as C hr hp => ?_)
  cases hp with
  | @hands d t u h =>
    refine ⟨_, (pss_cons (ps_set (i := 3) sc_count.nd rfl (by first | exact Or.inl rfl | exact Or.inr rfl) (pe_fnS x_told (L2N.takes_of rfl rfl rfl rfl) (hr.mono (by decide)) rfl (pa_cons (pv 0) pa_nil)))
      pss_never), ?_⟩
    try dsimp only [cxOf]
    exact sx_seqR (sx_asg (evx_call (by walk_at "ev") ⟨h⟩) trivial)
  | @begin l d u h hd hn =>
    refine ⟨_, (pss_cons (PS.nox (ps_set (i := 3) sc_count.nd rfl (by first | exact Or.inl rfl | exact Or.inr rfl) (pe_fn c_told (hr.mono (by decide)) rfl (pa_cons (pv 0) pa_nil))))
      (pss_cons (ps_expr (pe_fnS x_asked_time (L2N.takes_of rfl rfl rfl rfl) (hr.mono (by decide)) rfl (pa_cons (pv 1) pa_nil)))
      pss_never)), ?_⟩
    try dsimp only [cxOf]
    refine sx_seqP (sd_set (s := .p (ansD CA CT CN (toldF l))) (ev_toldP (by walk_at "ev") h) ?_)
    exact sx_seqR (sx_drop (evx_call (by walk_at "ev") ⟨hd, hn⟩) trivial)
  | @stop l t d h hd hn =>
    refine ⟨_, (pss_cons (PS.nox (ps_set (i := 3) sc_count.nd rfl (by first | exact Or.inl rfl | exact Or.inr rfl) (pe_fn c_told (hr.mono (by decide)) rfl (pa_cons (pv 0) pa_nil))))
      (pss_cons (PS.nox (ps_expr (pe_fn c_asked_time (hr.mono (by decide)) rfl (pa_cons (pv 1) pa_nil))))
      (pss_cons (ps_expr (pe_fnS x_asked_time (L2N.takes_of rfl rfl rfl rfl) (hr.mono (by decide)) rfl (pa_cons (pv 2) pa_nil)))
      pss_never))), ?_⟩
    try dsimp only [cxOf]
    refine sx_seqP (sd_set (s := .p (ansD CA CT CN (toldF l))) (ev_toldP (by walk_at "ev") h) ?_)
    refine sx_seqP (sd_drop (by walk_at "ev") ?_)
    exact sx_seqR (sx_drop (evx_call (by walk_at "ev") ⟨hd, hn⟩) trivial)
  | @always l t u h e =>
    refine ⟨_, (pss_cons (PS.nox (ps_set (i := 3) sc_count.nd rfl (by first | exact Or.inl rfl | exact Or.inr rfl) (pe_fn c_told (hr.mono (by decide)) rfl (pa_cons (pv 0) pa_nil))))
      (pss_cons (PS.nox (ps_expr (pe_fn c_asked_time (hr.mono (by decide)) rfl (pa_cons (pv 1) pa_nil))))
      (pss_cons (PS.nox (ps_expr (pe_fn c_asked_time (hr.mono (by decide)) rfl (pa_cons (pv 2) pa_nil))))
      (pss_cons (ps_if (pt_val (pe_callB (kIsi (K := K)) rfl b.isi_ bt_isi (pa_cons (pv 3) (pa_cons (pe_glob (v := .ref _) rfl T.mAlways rfl) pa_nil)))) (pss_one (pRaise TX.cNoTime rfl (L2N.takes_of rfl rfl rfl rfl) rfl)) pss_nil)
      pss_never)))), ?_⟩
    try dsimp only [cxOf]
    refine sx_seqP (sd_set (s := .p (ansD CA CT CN (toldF l))) (ev_toldP (by walk_at "ev") h) ?_)
    refine sx_seqP (sd_drop (by walk_at "ev") (sx_seqP (sd_drop (by walk_at "ev") ?_)))
    exact sx_seqR (sx_if (b := true) (et_B (ev_is (ev_ansA T (r := toldF l) (by walk_at "ev")) (by rw [e]; rfl))) (fun _ => sx_raise trivial) (fun z => by cases z))

/-! ### k08: who has no time -/
abbrev s__law_has_no_time : Stmt := topS 49
theorem sc__law_has_no_time : FnScope ["_law_ask", "error"] ["_law_ask"] (defScope s__law_has_no_time) := ⟨rfl, rfl, rfl, by decide +kernel, rfl, by decide +kernel, by decide +kernel⟩

theorem gives_no {X : Cx} {XD XB XM XH XO g : Addr} {cdg : Value} {q : Str} (TX : TxtX X.K X.mg XD XB XM XH XO) (b : Bl X.mg) : LamX.GivesTo X ["_law_ask", "error"] "_law_has_no_time" (defScope s__law_has_no_time) g cdg (defBody s__law_has_no_time) "_law_ask" q (TNo X.K XD XO) := by
  intro f c' s H Q tl act hc h
  refine ⟨_, pss_one (L2.ps_try_as (X := (cxOf C8.CX0 X.prog X.w X.K X.mg X.base ["_law_ask", "error"] "_law_has_no_time" (defScope s__law_has_no_time) g cdg X.A X.stack s H C8.E0).nox) (i := 1) (c := .ref XD)
      (tb := fun W D σ H => ∃ Ech : XK, (∀ cls d (σ' : L2.St) H', Ech cls d H' → σ'.length = 2 → W cls d σ' H') ∧ σ[0]? = some (some (.ref f)) ∧ H c' = some (LamX.CodeO c' q) ∧ tl Ech H fun _ H' => D.rt (.bl false) H')
      rfl rfl sc__law_has_no_time.nd rfl rfl ⟨rfl, by decide, .inl TX.mDialError⟩ LamX.takes0 (fun W pn xe tk _ => ?_)
      (fun a oe cls d pn hz hf => pss_one (ps_ret (pe_callB (call_isC (K := X.K) hz hf) rfl b.isi_ bt_isi (pa_cons (pv 1) (pa_cons (pe_glob (v := .ref _) rfl TX.mNoTime rfl) pa_nil)))))), ?_⟩
  · refine ⟨fun pins s' σ H' D I h' => ?_⟩
    obtain ⟨Ech, hW, h1, h2, h3⟩ := h'
    have tk2 : Takes ((cxOf C8.CX0 X.prog X.w X.K X.mg X.base ["_law_ask", "error"] "_law_has_no_time" (defScope s__law_has_no_time) g cdg X.A X.stack s H C8.E0).tr pn xe) (fun cls d (σ' : L2.St) H' => σ'.length = 2 → W cls d σ' H') := fun u s' ⟨a, B, sI, pins, σ, H, cls, d, e, I, nb, up, sky, na, os, ag, w⟩ => tk u s' ⟨a, B, sI, pins, σ, H, cls, d, e, I, nb, up, sky, na, os, ag, w I.len⟩
    have hp := fun p1 p2 => act (fun cls d (σ' : L2.St) H' => σ'.length = 2 → W cls d σ' H') pn xe Ech p1 p2 tk2 hW
    exact (pss_cons (ps_expr (hp _ _)) (pss_one (ps_ret pe_bl))).run pins s' σ H' D I ⟨h1, h2, h3⟩
  · refine ⟨_, fun cls d σ' H' z hl => ?_, rfl, hc, h⟩
    obtain ⟨C, bb, rfl, rfl, hx, cx, hk, hq⟩ := z
    refine ⟨true, hx, fun _ a ha => ?_, fun z => by cases z⟩
    exact ⟨_, List.getElem?_set_self (by rw [hl]; decide), C, .ref XO, .ref XO, bb, rfl, rfl, cx, rfl, fun u r => r, hk, hq⟩
theorem pe_no {X : Cx} {XD XB XM XH XO c PT : Addr} {k : Nat} {params : Arguments} {body : Expr} {scope : Scope} {t : XK → TE} {p lpos pos : Pos} (F : FunAt X.K X.mg "_law_has_no_time" s__law_has_no_time) (TX : TxtX X.K X.mg XD XB XM XH XO) (b : Bl X.mg) (TB : LamX.TabB X.base X.mg c PT) (hcode : X.env.code = .ref c) (hr : Room (k + 2) X.A)
    (L : LamX.LamS X.env.scope scope) (hdef : defaultsOf params X.env = ([], [])) (hbind : ∀ (q : Str) (cl : List (Str × Addr)) (pm cv ctv : Value), bindArgs (PySem.W.kla_fn "<lambda>" q params body scope cl pm cv ctv) ⟨[], []⟩ = pure [])
    (hbody : ∀ (A : Around) (outer : List PySem.Env) (s : Shared) (H : Hp) (E : XK) (f c' : Addr), Room k (A.deeper (LamX.lamEnv X scope s.heap.objs.size f c')) → PE (LamX.lamCx X A outer s H E scope f c') body (t E)) (hg : Gl X "_law_has_no_time") :
    PE X (.Call (.Name "_law_has_no_time" p) [.Lambda params body scope lpos] [] pos) (LamX.tLam [(PT, X.env.qual ++ "<lambda>")] (TNo X.K XD XO) t) := by
  obtain ⟨f, fd, F, hm⟩ := F
  have hb : Binds X.K fd ["_law_ask"] [] := F.binds (fun _ _ _ _ _ _ us hl => match us, hl with | [_], _ => rfl)
  obtain ⟨oc, od, kV, doc, pm, an, cdv, ct, osl, rfl, lk, hcd⟩ := F.ex
  exact LamX.pe_lamcall (a := "_law_ask") (Ng := ["_law_ask", "error"]) hg hm F.kp lk hcd hb sc__law_has_no_time rfl (.inl rfl) (gives_no TX b) TB hcode (List.mem_singleton.mpr rfl) (fun p hp _ => by rw [List.mem_singleton] at hp; rw [hp]) hr L hdef hbind hbody

/-! ### k08: the number, and what is plain -/
abbrev s__law_number : Stmt := topS 45
theorem sc__law_number : FnScope ["_law_cell", "_law_at", "_law_whole", "_law_blend", "_law_more"] ["_law_cell", "_law_at", "_law_whole"] (defScope s__law_number) := ⟨rfl, rfl, rfl, by decide +kernel, rfl, by decide +kernel, by decide +kernel⟩

def numM (c : Int) : Int := ((c + 977 * 3) * 48271 + 7) % 2147483647
def numK (c : Int) : Int := if (10 : Int) ^ 18 ≤ c then c / (1 + 3 % 7) else numM c * (c + 31 * 3 + 7) * (numM c + c + 5) * (numM c * numM c + 11) / (1009 + 3)
inductive PLNum : List D → S → Prop
  | mk {c : Int} (h : 0 ≤ c) : PLNum [I c, I 3, I 7] (.p (I (numK c)))
theorem ok__law_number (F : FunAt K mg "_law_number" s__law_number) (b : Bl mg) : Callee P w K mg base "_law_number" 1 ["_law_cell", "_law_at", "_law_whole"] (spS K PLNum) := by
  refine callee_mk F sc__law_number (fun _ _ _ _ _ _ us hl => match us, hl with | [_, _, _], _ => rfl) (by rintro _ _ ⟨⟩; rfl) (fun f cdv A outer sh H E as r hr hp => ?_)
  cases hp with
  | @mk c h0 =>
  refine ⟨_, (pss_cons (ps_if (qGe (pv 0) (pPow pe_int pe_int)) (pss_one (ps_ret (pDiv (pv 0) (pAdd pe_int (pMod (pv 1) pe_int))))) pss_nil)
      (pss_cons (ps_set (i := 3) sc__law_number.nd rfl (by first | exact Or.inl rfl | exact Or.inr rfl) (pMod (pAdd (pMul (pAdd (pv 0) (pMul pe_int (pv 1))) pe_int) (pv 2)) pe_int))
      (pss_cons (ps_set (i := 4) sc__law_number.nd rfl (by first | exact Or.inl rfl | exact Or.inr rfl) (pMul (pv 3) (pAdd (pAdd (pv 0) (pMul pe_int (pv 1))) pe_int)))
      (pss_one (ps_ret (pDiv (pMul (pMul (pv 4) (pAdd (pAdd (pv 3) (pv 0)) pe_int)) (pAdd (pMul (pv 3) (pv 3)) pe_int)) (pAdd pe_int (pv 1)))))))), ?_⟩
  try dsimp only [cxOf]
  refine sd_seq (sd_if (b := decide ((10 : Int) ^ (18 : Int).toNat ≤ c)) (by walk_at "ev" <;> exact ⟨by decide, by decide, by decide⟩) (fun e => ?_) (fun e => sd_next ?_))
  · have e' : (10 : Int) ^ 18 ≤ c := of_decide_eq_true e
    refine sd_ret (by
      walk_at "ev"
      · exact (by decide : (0 : Int) < 7)
      · exact Bt.div (b := 4) (by decide) (.dec (by decide)) (by decide) (by decide)) ?_
    unfold numK
    rw [if_pos e']
  have e' : ¬ (10 : Int) ^ 18 ≤ c := of_decide_eq_false e
  have h18 : (10 : Int) ^ 18 + 1000000 < ((2 ^ 61 : Nat) : Int) := by decide
  have bc : Bt 61 c := by unfold Bt; omega
  have bc1 : Bt 61 (c + 977 * 3) := by unfold Bt; omega
  have bc2 : Bt 61 (c + 31 * 3 + 7) := by unfold Bt; omega
  have m0 : 0 ≤ numM c := Int.emod_nonneg _ (by decide)
  have m1 : numM c < 2147483647 := Int.emod_lt_of_pos _ (by decide)
  have bm : Bt 61 (numM c) := by unfold Bt; omega
  have bm1 : Bt 63 (numM c + c + 5) := (bm.add bc).add (Bt.mono (a := 3) (.dec (by decide)) (by decide))
  have bm2 : Bt 123 (numM c * numM c + 11) := (bm.mul bm).add (Bt.mono (a := 4) (.dec (by decide)) (by decide))
  refine sd_seq (sd_set (s := .p (I (numM c))) (by
    unfold numM
    walk_at "ev"
    · exact CM.of (a := 10) (b := 2) (.dec (by decide)) (.dec (by decide)) (by decide)
    · exact CM.of (b := 16) bc1 (.dec (by decide)) (by decide)
    · exact (by decide : (0 : Int) < 2147483647)) ?_)
  walk_at "nrm"
  refine sd_seq (sd_set (by
    walk_at "ev"
    · exact CM.of (a := 10) (b := 2) (.dec (by decide)) (.dec (by decide)) (by decide)
    · exact CM.of bm bc2 (by decide)) ?_)
  walk_at "nrm"
  refine sd_ret (by
    walk_at "ev"
    · exact CM.of (bm.mul bc2) bm1 (by decide)
    · exact CM.of bm bm (by decide)
    · exact CM.of ((bm.mul bc2).mul bm1) bm2 (by decide)
    · exact Bt.div (b := 12) (by decide) (.dec (by decide)) (by decide) (by decide)) ?_
  unfold numK
  rw [if_neg e']
abbrev s__law_plain : Stmt := topS 46
theorem sc__law_plain : FnScope ["_law_thing", "_law_one"] ["_law_thing"] (defScope s__law_plain) := ⟨rfl, rfl, rfl, by decide +kernel, rfl, by decide +kernel, by decide +kernel⟩

inductive PLPlain (n : Nat) : List D → S → Prop
  | mk {d : D} (h : plainD n d = true) : PLPlain n [d] (.p (B true))
theorem plain_kinds {n : Nat} {d : D} (h : plainD n d = true) : (∃ i, d = I i) ∨ ∃ m xs, n = m + 1 ∧ (d = .lst xs ∨ d = .tup xs) ∧ xs.length ≤ 1000 ∧ ∀ x ∈ xs, plainD m x = true := by
  cases d with
  | val v => cases v <;> first | exact .inl ⟨_, rfl⟩ | (cases n <;> cases h)
  | lst xs =>
    cases n with
    | zero => cases h
    | succ m =>
      have h' : (decide (xs.length ≤ 1000) && xs.all (plainD m)) = true := h
      rw [Bool.and_eq_true] at h'
      exact .inr ⟨m, xs, rfl, .inl rfl, of_decide_eq_true h'.1, List.all_eq_true.mp h'.2⟩
  | tup xs =>
    cases n with
    | zero => cases h
    | succ m =>
      have h' : (decide (xs.length ≤ 1000) && xs.all (plainD m)) = true := h
      rw [Bool.and_eq_true] at h'
      exact .inr ⟨m, xs, rfl, .inr rfl, of_decide_eq_true h'.1, List.all_eq_true.mp h'.2⟩
  | fz xs => cases n <;> cases h
  | ins C fs => cases n <;> cases h
  | emp => cases n <;> cases h
theorem all_true {α : Type} (l : List α) : (l.all fun _ => true) = true := List.all_eq_true.mpr fun _ _ => rfl
theorem step__law_plain {n : Nat} {Pr : List D → S → Prop} (F : FunAt K mg "_law_plain" s__law_plain) (b : Bl mg) (c__law_plain : Callee P w K mg base "_law_plain" n ["_law_thing"] (spS K Pr)) (hP : ∀ m d, n = m + 1 → plainD m d = true → Pr [d] (.p (B true))) : Callee P w K mg base "_law_plain" (n + 1) ["_law_thing"] (spS K (PLPlain n)) := by
  refine callee_mk F sc__law_plain (fun _ _ _ _ _ _ us hl => match us, hl with | [_], _ => rfl) (by rintro _ _ ⟨⟩; rfl) (fun f cdv A outer sh H E as r hr hp => ?_)
  cases hp with
  | @mk d h =>
  refine ⟨_, (pss_cons (ps_if (PW.pt (pw_or (pt_val (pe_callB (kIsi (K := K)) rfl b.isi_ bt_isi (pa_cons (pv 0) (pa_cons (pe_bltn (v := .ty "list") rfl b.list_ bt_list rfl) pa_nil)))) (pw_or1 (pt_val (pe_callB (kIsi (K := K)) rfl b.isi_ bt_isi (pa_cons (pv 0) (pa_cons (pe_bltn (v := .ty "tuple") rfl b.tuple_ bt_tuple rfl) pa_nil))))))) (pss_one (ps_ret (pe_callB (kAll (K := K) rfl) rfl b.all_ bt_all (pa_cons (pe_lc (own := [("_law_one", 1)]) (g := (gName 1)) rfl sc__law_plain.nd (PI.or (iL (K := K) (pv 0)) (iT (K := K) (pv 0))) (blkOk_by (N := ["_law_thing", "_law_one"]) (sc := defScope s__law_plain) (own := [("_law_one", 1)]) (by decide +kernel)) (fun _ _ _ _ _ => (pg_name (i := 1) sc__law_plain.nd rfl (by first | exact Or.inl rfl | exact Or.inr rfl))) (fun _ _ _ _ _ => pts_nil) (fun _ _ _ _ _ => (pe_fn c__law_plain (hr.mono (Nat.le_refl _)) rfl (pa_cons (pv 1) pa_nil)))) pa_nil)))) pss_nil)
      (pss_one (ps_ret (pe_or (pe_cmpR op_isN (pv 0) pe_non (nomark _)) (pe_or (pe_callB (kIsi (K := K)) rfl b.isi_ bt_isi (pa_cons (pv 0) (pa_cons (pe_bltn (v := .ty "str") rfl b.str_ bt_str rfl) pa_nil))) (pe_one (pe_and (pe_callB (kIsi (K := K)) rfl b.isi_ bt_isi (pa_cons (pv 0) (pa_cons (pe_bltn (v := .ty "int") rfl b.int_ bt_int rfl) pa_nil))) (pe_one (pe_not (pe_callB (kIsi (K := K)) rfl b.isi_ bt_isi (pa_cons (pv 0) (pa_cons (pe_bltn (v := .ty "bool") rfl b.bool_ bt_bool rfl) pa_nil)))))))))))), ?_⟩
  try dsimp only [cxOf]
  rcases plain_kinds h with ⟨i, rfl⟩ | ⟨m, xs, hn, hd, hl, hx⟩
  · refine sd_seq (sd_if (b := false) (et_is (et_or (a := false) (b := false) (et_is (a := isL (I i)) (by walk_at "ev" <;> exact rfl) rfl) fun _ => et_is (a := isT (I i)) (by walk_at "ev" <;> exact rfl) rfl) rfl) (fun z => by cases z) (fun _ => sd_next ?_))
    refine sd_ret (ev_is (ev_orB (a := false) (b := true) (ev_isNI (by walk_at "ev") (by walk_at "ev")) fun _ => ev_is (ev_orB (a := false) (b := true) (ev_isStrI (by walk_at "ev")) fun _ => ev_is (ev_andB (a := true) (b := true) (ev_is (s := .p (B (intB (I i)))) (by walk_at "ev" <;> exact rfl) rfl) fun _ => ev_is (ev_notB (a := false) (ev_is (s := .p (B (boolB (I i)))) (by walk_at "ev" <;> exact rfl) rfl)) rfl) rfl) rfl) rfl) rfl
  · have e1 : (xs.all fun _ => true) = true := all_true xs
    have key : ∀ {wi : TI}, EvI K wi [some (.p d), none] xs → EvS K (tCB (rAll K) (tCons (tLc wi (gName 1) tYes (tCall (spS K Pr) [] E0 (tCons (tVar 1) tNil)) [1]) tNil)) [some (.p d), none] (.p (B true)) := fun hi => by
      rw [← e1]
      exact ev_allM (l := xs) (f := fun _ => true) (ea_cons (EvS.pure (ev_lcM (gv := [1]) (l := xs) (fa := fun d => d) (fb := fun _ => B true) (by rw [List.map_id']; exact hi) hl (by decide) fun x hx' => sg_name (ev_call (ea_cons (ev_var rfl) ea_nil) (hP m x hn (hx x hx'))))) ea_nil)
    rcases hd with rfl | rfl
    · exact sd_seq (sd_if (b := true) (et_is (et_or (a := true) (b := true) (et_is (a := isL (.lst xs)) (by walk_at "ev" <;> exact rfl) rfl) fun z => by cases z) rfl) (fun _ => sd_ret (key (ei_orL (ei_list (ev_var rfl)))) rfl) (fun z => by cases z))
    · exact sd_seq (sd_if (b := true) (et_is (et_or (a := false) (b := true) (et_is (a := isL (.tup xs)) (by walk_at "ev" <;> exact rfl) rfl) fun _ => et_is (a := isT (.tup xs)) (by walk_at "ev" <;> exact rfl) rfl) rfl) (fun _ => sd_ret (key (ei_orR (ei_tup (ev_var rfl)))) rfl) (fun z => by cases z))
theorem lv__law_plain (F : FunAt K mg "_law_plain" s__law_plain) (b : Bl mg) : ∀ n : Nat, Callee P w K mg base "_law_plain" (n + 1) ["_law_thing"] (spS K (PLPlain n))
  | 0 => step__law_plain F b (callee_none F (fun _ _ _ _ _ _ us hl => match us, hl with | [_], _ => rfl)) fun m d e => by cases e
  | n + 1 => step__law_plain F b (lv__law_plain F b n) fun m d e h => by cases e; exact ⟨h⟩
theorem ok__law_plain (F : FunAt K mg "_law_plain" s__law_plain) (b : Bl mg) : Callee P w K mg base "_law_plain" 5 ["_law_thing"] (spS K (PLPlain 4)) := lv__law_plain F b 4
abbrev s__law_truths : Stmt := topS 47
theorem sc__law_truths : FnScope ["_law_things", "_law_one"] ["_law_things"] (defScope s__law_truths) := ⟨rfl, rfl, rfl, by decide +kernel, rfl, by decide +kernel, by decide +kernel⟩

inductive PLTruths : List D → S → Prop
  | mk {bs : List Bool} (h : bs.length ≤ 1000) : PLTruths [.lst (bs.map B)] (.p (B true))
theorem ok__law_truths (F : FunAt K mg "_law_truths" s__law_truths) (b : Bl mg) : Callee P w K mg base "_law_truths" 1 ["_law_things"] (spS K PLTruths) := by
  refine callee_mk F sc__law_truths (fun _ _ _ _ _ _ us hl => match us, hl with | [_], _ => rfl) (by rintro _ _ ⟨⟩; rfl) (fun f cdv A outer sh H E as r hr hp => ?_)
  cases hp with
  | @mk bs h =>
  refine ⟨_, (pss_one (ps_ret (pe_callB (kAll (K := K) rfl) rfl b.all_ bt_all (pa_cons (pe_lc (own := [("_law_one", 1)]) (g := (gName 1)) rfl sc__law_truths.nd (iL (K := K) (pv 0)) (blkOk_by (N := ["_law_things", "_law_one"]) (sc := defScope s__law_truths) (own := [("_law_one", 1)]) (by decide +kernel)) (fun _ _ _ _ _ => (pg_name (i := 1) sc__law_truths.nd rfl (by first | exact Or.inl rfl | exact Or.inr rfl))) (fun _ _ _ _ _ => pts_nil) (fun _ _ _ _ _ => (pe_callB (kIsi (K := K)) rfl b.isi_ bt_isi (pa_cons (pv 1) (pa_cons (pe_bltn (v := .ty "bool") rfl b.bool_ bt_bool rfl) pa_nil))))) pa_nil)))), ?_⟩
  try dsimp only [cxOf]
  refine sd_ret (ev_is (ev_allM (l := bs) (f := fun _ => true) (ea_cons (EvS.pure (ev_lcM (gv := [1]) (l := bs) (fa := B) (fb := fun _ => B true) (ei_list (ev_var rfl)) h (by decide) fun x hx => sg_name (ev_is (s := .p (B (boolB (B x)))) (by walk_at "ev" <;> exact rfl) rfl))) ea_nil)) (by rw [all_true])) rfl

/-! ### k08: what hands tell -/
theorem cut_five (xs : List D) (a b c d e : D) : cutD (xs ++ [a, b, c, d] ++ [e]) (some (-5)) (some (-2)) = [a, b, c] := by
  have hn : (xs ++ [a, b, c, d] ++ [e]).length = xs.length + 5 := by simp
  unfold cutD HT.sIx
  dsimp only
  rw [hn, if_pos (by decide), if_pos (by decide)]
  have e1 : (-5 + ((xs.length + 5 : Nat) : Int)).toNat = xs.length := by omega
  have e2 : (-2 + ((xs.length + 5 : Nat) : Int)).toNat = xs.length + 3 := by omega
  rw [e1, e2, List.append_assoc, List.drop_left, Nat.add_sub_cancel_left]
  rfl
theorem plain_frs {l : List Hd} {f : Hd → Rat} (hl : l.length ≤ 63) : plainD 3 (.lst (l.map fun h => fr (f h))) = true := by
  show (decide ((l.map fun h => fr (f h)).length ≤ 1000) && (l.map fun h => fr (f h)).all (plainD 2)) = true
  rw [List.length_map, decide_eq_true (by omega), List.all_map]
  exact List.all_eq_true.mpr fun _ _ => rfl
theorem plain_hds {l : List Hd} (hl : l.length ≤ 63) : plainD 3 (.lst (l.map hd)) = true := by
  show (decide ((l.map hd).length ≤ 1000) && (l.map hd).all (plainD 2)) = true
  rw [List.length_map, decide_eq_true (by omega), List.all_map]
  exact List.all_eq_true.mpr fun _ _ => rfl
theorem plain_ints {ks : List Int} (hl : ks.length ≤ 60) : plainD 3 (.lst (ks.map I)) = true := by
  show (decide ((ks.map I).length ≤ 1000) && (ks.map I).all (plainD 2)) = true
  rw [List.length_map, decide_eq_true (by omega), List.all_map]
  exact List.all_eq_true.mpr fun _ _ => rfl
theorem plain_groups {l : List Hd} {t : Rat} (hl : l.length ≤ 63) : plainD 3 (.lst ((grL l t).map D.lst)) = true := by
  have h1 := gr_len (f := plF l t) (n := l.length)
  show (decide (((grL l t).map D.lst).length ≤ 1000) && ((grL l t).map D.lst).all (plainD 2)) = true
  rw [List.length_map]
  have h2 : (grL l t).length ≤ 1000 := by unfold grL; rw [List.length_map]; omega
  rw [decide_eq_true h2, List.all_map]
  refine List.all_eq_true.mpr fun x hx => ?_
  unfold grL grF at hx
  rw [List.map_map] at hx
  obtain ⟨i, _, rfl⟩ := List.mem_map.mp hx
  have h3 : ((List.range l.length).filter fun j => decide (plF l t j = plF l t i)).length ≤ l.length := by
    have := List.length_filter_le (fun j => decide (plF l t j = plF l t i)) (List.range l.length)
    rw [List.length_range] at this
    exact this
  show (decide ((((List.range l.length).filter fun j => decide (plF l t j = plF l t i)).map natI).length ≤ 1000) && (((List.range l.length).filter fun j => decide (plF l t j = plF l t i)).map natI).all (plainD 1)) = true
  rw [List.length_map, decide_eq_true (by omega), List.all_map]
  exact List.all_eq_true.mpr fun _ _ => rfl
abbrev s__law_hands_right : Stmt := topS 48
theorem sc__law_hands_right : FnScope ["_law_hands", "_law_time", "_law_answer", "_law_found", "_law_shown", "_law_built", "_law_one"] ["_law_hands", "_law_time"] (defScope s__law_hands_right) := ⟨rfl, rfl, rfl, by decide +kernel, rfl, by decide +kernel, by decide +kernel⟩

inductive PLHandsRight : List D → S → Prop
  | mk {l : List Hd} {t : Rat} (h : HsOk l) (ht : Bd 1000 t) : PLHandsRight [hs l, fr t] (.p (B true))
set_option maxHeartbeats 300000 in
theorem ok__law_hands_right {CA CT CN : Addr} (T : Txt K mg CA CT CN) (F : FunAt K mg "_law_hands_right" s__law_hands_right) (b : Bl mg) (i_At : ICallee P w K mg base CT 1 ["self", "first", "every"] (spI2 CT "first" "every")) (i_Never : ICallee P w K mg base CN 1 ["self", "some"] (spIL K CN "some"))
    (m_Always_shows : MCallee P w K mg base CA "shows" 1 ["self", "hands"] (spS K (PShowsA CA))) (m_At_shows : MCallee P w K mg base CT "shows" 5 ["self", "hands"] (spS K (PShowsT CT))) (m_Never_shows : MCallee P w K mg base CN "shows" 6 ["self", "hands"] (spS K (PShowsN CN)))
    (c_told : Callee P w K mg base "told" 7 ["hands"] (spS K (PTold CA CT CN))) (c_places : Callee P w K mg base "places" 6 ["hands", "time"] (spS K PPlaces)) (c_groups : Callee P w K mg base "groups" 6 ["hands", "time"] (spS K PGroups)) (c_later : Callee P w K mg base "later" 6 ["hands", "time"] (spS K PLater)) (c_mirrored : Callee P w K mg base "mirrored" 6 ["hands"] (spS K PMirrored))
    (c_turned : Callee P w K mg base "turned" 6 ["hands", "part"] (spS K PTurned)) (c_seen_from : Callee P w K mg base "seen_from" 6 ["hands", "which"] (spS K PSeenFrom)) (c_next_time : Callee P w K mg base "next_time" 8 ["hands", "time"] (spS K PNextTime)) (c_count : Callee P w K mg base "count" 8 ["hands", "begin", "end"] (spS K PCount))
    (c__law_plain : Callee P w K mg base "_law_plain" 5 ["_law_thing"] (spS K (PLPlain 4))) (c__law_truths : Callee P w K mg base "_law_truths" 1 ["_law_things"] (spS K PLTruths)) :
    Callee P w K mg base "_law_hands_right" 9 ["_law_hands", "_law_time"] (spS K PLHandsRight) := by
  refine callee_mk F sc__law_hands_right (fun _ _ _ _ _ _ us hl => match us, hl with | [_, _], _ => rfl) (by rintro _ _ ⟨⟩; rfl) (fun f cdv A outer sh H E as r hr hp => ?_)
  cases hp with
  | @mk l t h ht =>
  refine ⟨_, (pss_cons (ps_set (i := 2) sc__law_hands_right.nd rfl (by first | exact Or.inl rfl | exact Or.inr rfl) (pe_fn c_told (hr.mono (by decide)) rfl (pa_cons (pv 0) pa_nil)))
      (pss_cons (ps_set (i := 3) sc__law_hands_right.nd rfl (by first | exact Or.inl rfl | exact Or.inr rfl) (pe_lst (pa_cons (pe_fn c_places (hr.mono (by decide)) rfl (pa_cons (pv 0) (pa_cons (pv 1) pa_nil))) (pa_cons (pe_fn c_groups (hr.mono (by decide)) rfl (pa_cons (pv 0) (pa_cons (pv 1) pa_nil))) (pa_cons (pe_fn c_later (hr.mono (by decide)) rfl (pa_cons (pv 0) (pa_cons (pv 1) pa_nil))) (pa_cons (pe_fn c_mirrored (hr.mono (by decide)) rfl (pa_cons (pv 0) pa_nil)) (pa_cons (pe_fn c_turned (hr.mono (by decide)) rfl (pa_cons (pv 0) (pa_cons (pv 1) pa_nil))) pa_nil)))))))
      (pss_cons (ps_if (qNe (K := K) hr (pv 0) (pe_lst pa_nil)) (pss_one (ps_expr (kBM (K := K) (pe_bm PySem.F.plainAttrs_list PySem.F.slot_list_append PySem.F.type_list_append mt_append (pv 3) (pa_cons (pe_fn c_seen_from (hr.mono (by decide)) rfl (pa_cons (pv 0) (pa_cons pe_int pa_nil))) pa_nil))))) pss_nil)
      (pss_cons (ps_if (pt_val (pe_callB (kIsi (K := K)) rfl b.isi_ bt_isi (pa_cons (pv 2) (pa_cons (pe_glob (v := .ref _) rfl T.mAt rfl) pa_nil)))) (pss_cons (ps_set (i := 3) sc__law_hands_right.nd rfl (by first | exact Or.inl rfl | exact Or.inr rfl) (pAdd (pv 3) (pe_lst (pa_cons (pFld (K := K) (pv 2) rfl) (pa_cons (pFld (K := K) (pv 2) rfl) (pa_cons (pe_fn c_next_time (hr.mono (by decide)) rfl (pa_cons (pv 0) (pa_cons (pv 1) pa_nil))) (pa_cons (pe_fn c_count (hr.mono (by decide)) rfl (pa_cons (pv 0) (pa_cons (pe_tup (pa_cons pe_int (pa_cons pe_int pa_nil))) (pa_cons (pe_tup (pa_cons pe_int (pa_cons pe_int pa_nil))) pa_nil)))) pa_nil)))))))
      (pss_cons (ps_set (i := 3) sc__law_hands_right.nd rfl (by first | exact Or.inl rfl | exact Or.inr rfl) (pAdd (pv 3) (pe_lst (pa_cons (pe_fn c_count (hr.mono (by decide)) rfl (pa_cons (pv 0) (pa_cons (pe_tup (pa_cons pe_int (pa_cons pe_int pa_nil))) (pa_cons (pe_tup (pa_cons pe_int (pa_cons pe_int pa_nil))) pa_nil)))) pa_nil))))
      (pss_one (ps_if (pt_not (pt_val (pe_callB (kAll (K := K) rfl) rfl b.all_ bt_all (pa_cons (pe_lc (own := [("_law_one", 6)]) (g := (gName 6)) rfl sc__law_hands_right.nd (iL (K := K) (pe_slice (kSl (K := K)) (pv 3) (po_some (pNeg pe_int)) (po_some (pNeg pe_int)))) (blkOk_by (N := ["_law_hands", "_law_time", "_law_answer", "_law_found", "_law_shown", "_law_built", "_law_one"]) (sc := defScope s__law_hands_right) (own := [("_law_one", 6)]) (by decide +kernel)) (fun _ _ _ _ _ => (pg_name (i := 6) sc__law_hands_right.nd rfl (by first | exact Or.inl rfl | exact Or.inr rfl))) (fun _ _ _ _ _ => pts_nil) (fun _ _ _ _ _ => (pe_callB (kIsi (K := K)) rfl b.isi_ bt_isi (pa_cons (pv 6) (pa_cons (pe_bltn (v := .ty "tuple") rfl b.tuple_ bt_tuple rfl) pa_nil))))) pa_nil)))) (pss_one (ps_ret pe_bl)) pss_nil)))) pss_nil)
      (pss_cons (ps_if (pt_val (pe_callB (kIsi (K := K)) rfl b.isi_ bt_isi (pa_cons (pv 2) (pa_cons (pe_glob (v := .ref _) rfl T.mNever rfl) pa_nil)))) (pss_one (ps_expr (kBM (K := K) (pe_bm PySem.F.plainAttrs_list PySem.F.slot_list_append PySem.F.type_list_append mt_append (pv 3) (pa_cons (pFld (K := K) (pv 2) rfl) pa_nil))))) pss_nil)
      (pss_cons (ps_setLc (i := 4) (own := [("_law_built", 5)]) (g := (gName 5)) rfl sc__law_hands_right.nd rfl rfl (sw_true rfl rfl rfl (by decide +kernel)) (iL (K := K) (pe_lst (pa_cons (pv 2) (pa_cons (pe_makeO T.cAlways.mks T.iAlways T.cAlways.kp rfl T.mAlways) (pa_cons (pe_mk i_At (hr.mono (by decide)) rfl T.mAt (pa_cons (pe_tup (pa_cons pe_int (pa_cons pe_int pa_nil))) (pa_cons (pe_tup (pa_cons pe_int (pa_cons pe_int pa_nil))) pa_nil))) (pa_cons (pe_mk i_Never (hr.mono (by decide)) rfl T.mNever (pa_cons (pe_lst (pa_cons pe_int pa_nil)) pa_nil)) pa_nil)))))) (blkOk_by (N := ["_law_hands", "_law_time", "_law_answer", "_law_found", "_law_shown", "_law_built", "_law_one"]) (sc := defScope s__law_hands_right) (own := [("_law_built", 5)]) (by decide +kernel)) (fun _ _ _ _ _ => (pg_name (i := 5) sc__law_hands_right.nd rfl (by first | exact Or.inl rfl | exact Or.inr rfl))) (fun _ _ _ _ _ => pts_nil) (fun _ _ _ _ _ => (PE.or (pMeth m_Always_shows T.cAlways.it.cl (hr.mono (by decide)) (pv 5) (pa_cons (pv 0) pa_nil)) (PE.or (pMeth m_At_shows T.cAt.it.cl (hr.mono (by decide)) (pv 5) (pa_cons (pv 0) pa_nil)) (pMeth m_Never_shows T.cNever.it.cl (hr.mono (by decide)) (pv 5) (pa_cons (pv 0) pa_nil))))))
      (pss_one (ps_ret (pe_and (pe_fn c__law_plain (hr.mono (by decide)) rfl (pa_cons (pv 3) pa_nil)) (pe_one (pe_fn c__law_truths (hr.mono (by decide)) rfl (pa_cons (pv 4) pa_nil)))))))))))), ?_⟩
  try dsimp only [cxOf]
  have l63 := h.len
  have b0 : Bd 1000 0 := Bd0.mono (by decide)
  have fr9 : fr (9 : Rat) = .tup [I 9, I 1] := rfl
  have b9 : Bd 1000 (9 : Rat) := ⟨Nat.lt_of_lt_of_le (show (9 : Rat).num.natAbs < 2 ^ 10 by decide +kernel) (Nat.pow_le_pow_right (by decide) (by decide)), Nat.lt_of_lt_of_le (show (9 : Rat).den < 2 ^ 10 by decide +kernel) (Nat.pow_le_pow_right (by decide) (by decide))⟩
  walk_at "nrm"
  refine sd_seq (sd_set (s := .p (ansD CA CT CN (toldF l))) (ev_toldP (by walk_at "ev") h) ?_)
  walk_at "nrm"
  refine sd_seq (sd_set (ev_lst (ea_cons (EvS.pure (ev_places (l := l) (t := t) (by walk_at "ev") ⟨h, ht⟩)) (ea_cons (ev_groupsP (l := l) (t := t) (by walk_at "ev") ⟨h, ht⟩) (ea_cons (EvS.pure (ev_later (l := l) (t := t) (by walk_at "ev") ⟨h, ht⟩)) (ea_cons (EvS.pure (ev_mirrored (l := l) (by walk_at "ev") h)) (ea_cons (EvS.pure (ev_turned (l := l) (t := t) (by walk_at "ev") ⟨h, ht⟩)) ea_nil))))) (hLen rfl)) ?_)
  walk_at "nrm"
  refine sd_join (N' := fun ds' => ∃ xs : List D, (∀ x ∈ xs, plainD 3 x = true) ∧ xs.length ≤ 6 ∧ ds' = [some (.p (hs l)), some (.p (fr t)), some (.p (ansD CA CT CN (toldF l))), some (.o xs), none, none, none]) (sd_if (b := !l.isEmpty) (et_test (ev_is (ev_neD (a := hs l) (b := .lst []) 3 (by walk_at "ev") ev_nilL ⟨by
      show (l.map hd).all (pl 2) = true
      rw [List.all_map]
      exact List.all_eq_true.mpr fun _ _ => rfl, rfl, by decide⟩) (by rw [eq_nil, List.isEmpty_map]))) (fun e => ?_) (fun e => ?_)) ?_
  · have hne : 0 < l.length := by
      cases l with
      | nil => cases e
      | cons x xs => exact Nat.succ_pos _
    refine sd_app (i := 3) (d := .lst ((l.map fun h => (h.1 - (l.getD 0 (0, 0)).1, fract (h.2 - (l.getD 0 (0, 0)).2))).map hd)) rfl (noN rfl) (EvS.pure (ev_seen_from (l := l) (k := 0) (o := l.getD 0 (0, 0)) (ea_cons (by walk_at "ev") (ea_cons (ev_is (s := .p (I 0)) (by walk_at "ev") rfl) ea_nil)) ⟨h, by rw [List.getD_eq_getElem?_getD, List.getElem?_eq_getElem hne]; rfl⟩)) (by show 5 < 1000; decide) ?_
    walk_at "nrm"
    refine ⟨_, fun x hx => ?_, ?_, rfl⟩
    · simp only [List.mem_cons, List.not_mem_nil, or_false] at hx
      rcases hx with rfl | rfl | rfl | rfl | rfl | rfl
      · exact plain_frs l63
      · exact plain_groups l63
      · exact plain_hds (by rw [List.length_map]; exact l63)
      · exact plain_hds (by rw [List.length_map]; exact l63)
      · exact plain_hds (by rw [List.length_map]; exact l63)
      · exact plain_hds (by rw [List.length_map]; exact l63)
    · show 6 ≤ 6; decide
  · refine sd_next ⟨_, fun x hx => ?_, ?_, rfl⟩
    · simp only [List.mem_cons, List.not_mem_nil, or_false] at hx
      rcases hx with rfl | rfl | rfl | rfl | rfl
      · exact plain_frs l63
      · exact plain_groups l63
      · exact plain_hds (by rw [List.length_map]; exact l63)
      · exact plain_hds (by rw [List.length_map]; exact l63)
      · exact plain_hds (by rw [List.length_map]; exact l63)
    · show 5 ≤ 6; decide
  rintro _ ⟨xs, hx, hl, rfl⟩
  refine sd_join (N' := fun ds' => ∃ ys : List D, (∀ x ∈ ys, plainD 3 x = true) ∧ ys.length ≤ 12 ∧ ds' = [some (.p (hs l)), some (.p (fr t)), some (.p (ansD CA CT CN (toldF l))), some (.o ys), none, none, none]) (sd_if (b := isAt (toldF l)) (et_B (ev_ansT T (by walk_at "ev"))) (fun e => ?_) (fun e => sd_next ⟨xs, hx, by omega, rfl⟩)) ?_
  · cases q' : toldF l with
    | always => rw [q'] at e; cases e
    | never ks => rw [q'] at e; cases e
    | at_ q n =>
    have ecl := T.cAt.it.cl
    have hna : toldF l ≠ .always := by rw [q']; intro z; cases z
    refine sd_frz (i := 3) rfl (noN rfl) ?_
    walk_at "nrm"
    refine sd_seq (sd_set (s := .o (xs ++ [fr q, .tup [I 1, I (n : Int)], fr (nextF q n t), I (countF l 0 9)])) (ev_cat (xs := xs) (by walk_at "ev") (EvS.pure (ev_lst (ea_cons (ev_fldF ecl T.nFirst (by walk_at "ev")) (ea_cons (ev_fldE ecl T.nEvery (by walk_at "ev")) (ea_cons (ev_next_time (l := l) (t := t) (by walk_at "ev") ⟨h, ht, q'⟩) (ea_cons (ev_count (l := l) (s := 0) (t := 9) (ea_cons (by walk_at "ev") (ea_cons (ev_frc rfl) (ea_cons (ev_frc fr9) ea_nil))) ⟨h, b0, b9, hna⟩) ea_nil)))) (hLen rfl))) (show xs.length + 4 ≤ 1000 by omega)) ?_)
    walk_at "nrm"
    refine sd_frz (i := 3) rfl (noN rfl) ?_
    walk_at "nrm"
    refine sd_seq (sd_set (s := .o (xs ++ [fr q, .tup [I 1, I (n : Int)], fr (nextF q n t), I (countF l 0 9)] ++ [I (countF l 0 0)])) (ev_cat (xs := xs ++ [fr q, .tup [I 1, I (n : Int)], fr (nextF q n t), I (countF l 0 9)]) (by walk_at "ev") (EvS.pure (ev_lst (ea_cons (ev_count (l := l) (s := 0) (t := 0) (ea_cons (by walk_at "ev") (ea_cons (ev_frc rfl) (ea_cons (ev_frc rfl) ea_nil))) ⟨h, b0, b0, hna⟩) ea_nil) (hLen rfl))) (show (xs ++ [fr q, .tup [I 1, I (n : Int)], fr (nextF q n t), I (countF l 0 9)]).length + 1 ≤ 1000 by rw [List.length_append]; show xs.length + 4 + 1 ≤ 1000; omega)) ?_)
    walk_at "nrm"
    refine sd_if (b := false) (et_frz (et_is (et_not (a := true) (et_B (ev_is (ev_allM (l := [fr q, .tup [I 1, I (n : Int)], fr (nextF q n t)]) (f := isT) (ea_cons (EvS.pure (ev_lcM (gv := [6]) (l := [fr q, .tup [I 1, I (n : Int)], fr (nextF q n t)]) (fa := fun d => d) (fb := fun d => B (isT d)) (ei_list (EvS.pure (ev_is (ev_slL (xs := xs ++ [fr q, .tup [I 1, I (n : Int)], fr (nextF q n t), I (countF l 0 9)] ++ [I (countF l 0 0)]) (lo := some (-5)) (hi := some (-2)) (ev_varF rfl rfl) (eo_some (by walk_at "ev")) (eo_some (by walk_at "ev"))) (by rw [cut_five]; rfl)))) (by show 3 ≤ 1000; decide) (by decide) fun x hx => sg_name (by
      walk_at "ev"
      simp only [List.mem_cons, List.not_mem_nil, or_false] at hx
      rcases hx with rfl | rfl | rfl <;> rfl))) ea_nil)) rfl))) rfl)) (fun z => by cases z) (fun _ => sd_next ⟨_, fun x hx' => ?_, ?_, rfl⟩)
    · rw [List.mem_append, List.mem_append] at hx'
      simp only [List.mem_cons, List.not_mem_nil, or_false] at hx'
      rcases hx' with (hx' | rfl | rfl | rfl | rfl) | rfl
      · exact hx x hx'
      all_goals rfl
    · rw [List.length_append, List.length_append]
      show xs.length + 4 + 1 ≤ 12
      omega
  rintro _ ⟨ys, hy, hly, rfl⟩
  refine sd_join (N' := fun ds' => ∃ zs : List D, (∀ x ∈ zs, plainD 3 x = true) ∧ zs.length ≤ 13 ∧ ds' = [some (.p (hs l)), some (.p (fr t)), some (.p (ansD CA CT CN (toldF l))), some (.o zs), none, none, none]) (sd_if (b := isNv (toldF l)) (et_B (ev_ansN T (by walk_at "ev"))) (fun e => ?_) (fun e => sd_next ⟨ys, hy, by omega, rfl⟩)) ?_
  · have aok := told_ansOk h
    cases q' : toldF l with
    | always => rw [q'] at e; cases e
    | at_ q n => rw [q'] at e; cases e
    | never ks =>
    rw [q'] at aok
    refine sd_app (i := 3) (d := .lst (ks.map I)) rfl (noN rfl) (ev_fld (ev_var rfl) T.cNever.it.cl T.nSome rfl) (by omega) ?_
    walk_at "nrm"
    refine ⟨_, fun x hx' => ?_, ?_, rfl⟩
    · rw [List.mem_append, List.mem_singleton] at hx'
      rcases hx' with hx' | rfl
      · exact hy x hx'
      · exact plain_ints aok
    · rw [List.length_append]
      show ys.length + 1 ≤ 13
      omega
  rintro _ ⟨zs, hz, hlz, rfl⟩
  refine sd_frz (i := 3) rfl (noN rfl) ?_
  walk_at "nrm"
  have z1 : ∀ {i : Int}, i.natAbs < 2 ^ 20 → Bt 1000 i := fun h => Bt.sm h (by decide)
  refine sd_seq (sd_set (s := .p (.lst (([showsB l (toldF l), alikeB l, atG l 0 1 1 1, nevB l [0] (decide ([0] = sortU [0]))] : List Bool).map B))) (EvS.pure (ev_is (ev_lcM (gv := [5]) (l := [(ansD CA CT CN (toldF l), showsB l (toldF l)), (.ins CA [], alikeB l), (.ins CT [("first", .tup [I 0, I 1]), ("every", .tup [I 1, I 1])], atG l 0 1 1 1), (.ins CN [("some", .lst (([0] : List Int).map I))], nevB l [0] (decide ([0] = sortU [0])))]) (fa := Prod.fst) (fb := fun x => B x.2) (ei_list (EvS.pure (ev_lst (ea_cons (by walk_at "ev") (ea_cons ev_make0 (ea_cons (ev_make2 (by walk_at "ev")) (ea_cons (ev_makeL (xs := [I 0]) (by walk_at "ev")) ea_nil)))) (hLen rfl)))) (by show 4 ≤ 1000; decide) (by decide) fun x hx => sg_name (by
    simp only [List.mem_cons, List.not_mem_nil, or_false] at hx
    rcases hx with rfl | rfl | rfl | rfl
    · exact ev_shows (r := toldF l) (ev_var rfl) (by walk_at "ev") h (told_ansOk h)
    · exact ev_showsA (ev_var rfl) (by walk_at "ev") h
    · exact ev_showsT (a := 0) (b := 1) (c := 1) (d := 1) (ev_var rfl) (by walk_at "ev") h ⟨z1 (by decide), z1 (by decide), z1 (by decide), z1 (by decide)⟩
    · exact ev_showsN (ks := [0]) (ev_var rfl) (by walk_at "ev") h (by decide))) rfl)) ?_)
  walk_at "nrm"
  exact sd_ret (ev_is (ev_andB (a := true) (b := true) (ev_call (by walk_at "ev") ⟨by
    show (decide (zs.length ≤ 1000) && zs.all (plainD 3)) = true
    rw [decide_eq_true (by omega)]
    exact List.all_eq_true.mpr hz⟩) fun _ => ev_call (by walk_at "ev") ⟨by show 4 ≤ 1000; decide⟩) rfl) rfl

/-! ### k08: times behind and ahead -/
theorem frk {q : Rat} {a : Int} {b : Nat} (h : q.num = a ∧ q.den = b) : fr q = .tup [I a, I (b : Int)] := by unfold fr; rw [h.1, h.2]
theorem hok_small {r : Int} {q : Rat} (h0 : 0 ≤ q) (h1 : q < 1) (hd : q.den < 2 ^ 20) (hr : r.natAbs < 2 ^ 20) : HOk (r, q) :=
  ⟨h0, h1, (part_bd h0 h1 hd).mono (by decide), Nat.lt_of_lt_of_le hr (Nat.pow_le_pow_right (by decide) (by decide))⟩
theorem bdS {q : Rat} (h : q.num.natAbs < 2 ^ 128 ∧ q.den < 2 ^ 128) : Bd 1000 q := ⟨Nat.lt_of_lt_of_le h.1 (Nat.pow_le_pow_right (by decide) (by decide)), Nat.lt_of_lt_of_le h.2 (Nat.pow_le_pow_right (by decide) (by decide))⟩
def hokB (l : List Hd) : Bool := decide (l.length ≤ 63) && l.all fun h => decide (0 ≤ h.2) && decide (h.2 < 1) && decide (h.2.den < 2 ^ 20) && decide (h.1.natAbs < 2 ^ 20)
theorem hok_by {l : List Hd} (h : hokB l = true) : HsOk l := by
  unfold hokB at h
  rw [Bool.and_eq_true] at h
  refine ⟨of_decide_eq_true h.1, fun x hx => ?_⟩
  have := List.all_eq_true.mp h.2 x hx
  simp only [Bool.and_eq_true, decide_eq_true_eq] at this
  obtain ⟨⟨⟨a, b⟩, c⟩, d⟩ := this
  exact hok_small a b c d
theorem ev_fr2 {ds : Env} {ta tb : TE} {q : Rat} {a b : Int} (h : fr q = .tup [I a, I b]) (h1 : EvS K ta ds (.p (I a))) (h2 : EvS K tb ds (.p (I b))) : EvS K (tTup (tCons ta (tCons tb tNil))) ds (.p (fr q)) := by
  rw [h]
  exact ev_tup (ea_cons h1 (ea_cons h2 ea_nil)) (hLen rfl)
theorem ev_hd2 {ds : Env} {ta tb : TE} {r : Int} {q : Rat} (h1 : EvS K ta ds (.p (I r))) (h2 : EvS K tb ds (.p (fr q))) : EvS K (tTup (tCons ta (tCons tb tNil))) ds (.p (hd (r, q))) := ev_tup (ea_cons h1 (ea_cons h2 ea_nil)) (hLen rfl)
def cntO (s t : Rat) : Int := if s < t then cnt (Rat.divInt 1 4) 1 t - cnt (Rat.divInt 1 4) 1 s else 0
theorem count_one (s t : Rat) : countF oneH s t = cntO s t := by
  unfold countF cntO
  rw [told_oneH]
def q30 : Rat := Rat.divInt (10 ^ 30) 1
def spansL : List (Rat × Rat) := [(Rat.divInt 1 4, Rat.divInt 9 4), (Rat.divInt 1 4, Rat.divInt 1 4), (Rat.divInt 9 4, Rat.divInt 1 4), (-1, 1), (0, q30)]
abbrev s__law_times_promises : Stmt := topS 50
theorem sc__law_times_promises : FnScope ["_law_one", "_law_three", "_law_half", "_law_none", "_law_spans", "_law_time", "_law_begin", "_law_end"] ["_law_one", "_law_three"] (defScope s__law_times_promises) := ⟨rfl, rfl, rfl, by decide +kernel, rfl, by decide +kernel, by decide +kernel⟩

abbrev tT (PT : Addr) : List (Addr × Str) := [(PT, (("_law_times_promises" : Str) ++ ".<locals>.") ++ "<lambda>")]
inductive PTimesP : List D → V → Prop
  | mk : PTimesP [hs oneH, hs threeH] (.bl true)
theorem ok__law_times_promises {CA CT CN XD XB XM XH XO c PT : Addr} (T : Txt K mg CA CT CN) (TX : TxtX K mg XD XB XM XH XO) (F : FunC K mg "_law_times_promises" s__law_times_promises c) (FN : FunAt K mg "_law_has_no_time" s__law_has_no_time) (TB : LamX.TabB base mg c PT) (b : Bl mg)
    (c_next_time : Callee P w K mg base "next_time" 8 ["hands", "time"] (spS K PNextTime)) (c_count : Callee P w K mg base "count" 8 ["hands", "begin", "end"] (spS K PCount)) (x_next_time : CalleeX P w K mg base "next_time" 8 ["hands", "time"] (spX K (PNextTimeX XB XM XO))) (x_count : CalleeX P w K mg base "count" 8 ["hands", "begin", "end"] (spX K (PCountX XB XM XO)))
    (c_places : Callee P w K mg base "places" 6 ["hands", "time"] (spS K PPlaces)) (c_groups : Callee P w K mg base "groups" 6 ["hands", "time"] (spS K PGroups)) (c_later : Callee P w K mg base "later" 6 ["hands", "time"] (spS K PLater)) (c_mirrored : Callee P w K mg base "mirrored" 6 ["hands"] (spS K PMirrored))
    (c_turned : Callee P w K mg base "turned" 6 ["hands", "part"] (spS K PTurned)) (c_seen_from : Callee P w K mg base "seen_from" 6 ["hands", "which"] (spS K PSeenFrom)) :
    Callee P w K mg base "_law_times_promises" 11 ["_law_one", "_law_three"] (spT K (tT PT) PTimesP) := by
  refine callee_mkC F sc__law_times_promises (fun _ _ _ _ _ _ us hl => match us, hl with | [_, _], _ => rfl) (by rintro _ _ ⟨⟩; rfl) (fun f A outer sh H E as r hr hp => ?_)
  cases hp with
  | mk =>
  refine ⟨_, (pss_cons (ps_asg (pe_tup (pa_cons (pe_tup (pa_cons pe_int (pa_cons pe_int pa_nil))) (pa_cons (pe_tup (pa_cons pe_int (pa_cons pe_int pa_nil))) pa_nil))) (gT (K := K) (n := 2) rfl (pgs_cons (pg_name (i := 2) sc__law_times_promises.nd rfl (by first | exact Or.inl rfl | exact Or.inr rfl)) (pgs_cons (pg_name (i := 3) sc__law_times_promises.nd rfl (by first | exact Or.inl rfl | exact Or.inr rfl)) pgs_nil))))
      (pss_cons (ps_if (qNe (K := K) hr (pe_lc (own := [("_law_time", 5)]) (g := (gName 5)) rfl sc__law_times_promises.nd (iL (K := K) (pe_lst (pa_cons (pe_tup (pa_cons pe_int (pa_cons pe_int pa_nil))) (pa_cons (pv 3) (pa_cons (pe_tup (pa_cons (pNeg pe_int) (pa_cons pe_int pa_nil))) (pa_cons (pe_tup (pa_cons (pNeg pe_int) (pa_cons pe_int pa_nil))) pa_nil)))))) (blkOk_by (N := ["_law_one", "_law_three", "_law_half", "_law_none", "_law_spans", "_law_time", "_law_begin", "_law_end"]) (sc := defScope s__law_times_promises) (own := [("_law_time", 5)]) (by decide +kernel)) (fun _ _ _ _ _ => (pg_name (i := 5) sc__law_times_promises.nd rfl (by first | exact Or.inl rfl | exact Or.inr rfl))) (fun _ _ _ _ _ => pts_nil) (fun _ _ _ _ _ => (pe_fn c_next_time (hr.mono (by decide)) rfl (pa_cons (pv 0) (pa_cons (pv 5) pa_nil))))) (pe_lst (pa_cons (pe_tup (pa_cons pe_int (pa_cons pe_int pa_nil))) (pa_cons (pe_tup (pa_cons pe_int (pa_cons pe_int pa_nil))) (pa_cons (pe_tup (pa_cons (pNeg pe_int) (pa_cons pe_int pa_nil))) (pa_cons (pe_tup (pa_cons pe_int (pa_cons pe_int pa_nil))) pa_nil)))))) (pss_one (ps_ret pe_bl)) pss_nil)
      (pss_cons (ps_set (i := 4) sc__law_times_promises.nd rfl (by first | exact Or.inl rfl | exact Or.inr rfl) (pe_lst (pa_cons (pe_tup (pa_cons (pe_tup (pa_cons pe_int (pa_cons pe_int pa_nil))) (pa_cons (pe_tup (pa_cons pe_int (pa_cons pe_int pa_nil))) pa_nil))) (pa_cons (pe_tup (pa_cons (pe_tup (pa_cons pe_int (pa_cons pe_int pa_nil))) (pa_cons (pe_tup (pa_cons pe_int (pa_cons pe_int pa_nil))) pa_nil))) (pa_cons (pe_tup (pa_cons (pe_tup (pa_cons pe_int (pa_cons pe_int pa_nil))) (pa_cons (pe_tup (pa_cons pe_int (pa_cons pe_int pa_nil))) pa_nil))) (pa_cons (pe_tup (pa_cons (pe_tup (pa_cons (pNeg pe_int) (pa_cons pe_int pa_nil))) (pa_cons (pe_tup (pa_cons pe_int (pa_cons pe_int pa_nil))) pa_nil))) (pa_cons (pe_tup (pa_cons (pe_tup (pa_cons pe_int (pa_cons pe_int pa_nil))) (pa_cons (pe_tup (pa_cons (pPow pe_int pe_int) (pa_cons pe_int pa_nil))) pa_nil))) pa_nil)))))))
      (pss_cons (ps_if (PW.pt (pw_or (qNe (K := K) hr (pe_lc (own := [("_law_begin", 6), ("_law_end", 7)]) (g := (gTup K 2 (gCons (gName 6) (gCons (gName 7) gNil)))) rfl sc__law_times_promises.nd (iL (K := K) (pv 4)) (blkOk_by (N := ["_law_one", "_law_three", "_law_half", "_law_none", "_law_spans", "_law_time", "_law_begin", "_law_end"]) (sc := defScope s__law_times_promises) (own := [("_law_begin", 6), ("_law_end", 7)]) (by decide +kernel)) (fun _ _ _ _ _ => (gT (K := K) (n := 2) rfl (pgs_cons (pg_name (i := 6) sc__law_times_promises.nd rfl (by first | exact Or.inl rfl | exact Or.inr rfl)) (pgs_cons (pg_name (i := 7) sc__law_times_promises.nd rfl (by first | exact Or.inl rfl | exact Or.inr rfl)) pgs_nil)))) (fun _ _ _ _ _ => pts_nil) (fun _ _ _ _ _ => (pe_fn c_count (hr.mono (by decide)) rfl (pa_cons (pv 0) (pa_cons (pv 6) (pa_cons (pv 7) pa_nil)))))) (pe_lst (pa_cons pe_int (pa_cons pe_int (pa_cons pe_int (pa_cons pe_int (pa_cons (pPow pe_int pe_int) pa_nil))))))) (pw_or1 (qNe (K := K) hr (pe_fn c_count (hr.mono (by decide)) rfl (pa_cons (pv 1) (pa_cons (pv 3) (pa_cons (pe_tup (pa_cons pe_int (pa_cons pe_int pa_nil))) pa_nil)))) pe_int)))) (pss_one (ps_ret pe_bl)) pss_nil)
      (pss_cons (ps_if (pt_not (pt_val (pe_no (k := 8) FN TX b TB rfl (hr.mono (by decide)) (LamX.lamS_by (sc := defScope s__law_times_promises) (by decide +kernel)) rfl (fun _ _ _ _ _ => rfl) (fun A outer s H E f c hr2 => (pe_fnC x_next_time.c (L2.takes_of rfl rfl rfl rfl) (hr2.mono (by decide)) rfl (pa_cons (pv 1) (pa_cons (pv 3) pa_nil)))) rfl))) (pss_one (ps_ret pe_bl)) pss_nil)
      (pss_cons (ps_if (pt_not (pt_val (pe_no (k := 8) FN TX b TB rfl (hr.mono (by decide)) (LamX.lamS_by (sc := defScope s__law_times_promises) (by decide +kernel)) rfl (fun _ _ _ _ _ => rfl) (fun A outer s H E f c hr2 => (pe_fnC x_next_time.c (L2.takes_of rfl rfl rfl rfl) (hr2.mono (by decide)) rfl (pa_cons (pe_lst pa_nil) (pa_cons (pv 3) pa_nil)))) rfl))) (pss_one (ps_ret pe_bl)) pss_nil)
      (pss_cons (ps_if (pt_not (pt_val (pe_no (k := 8) FN TX b TB rfl (hr.mono (by decide)) (LamX.lamS_by (sc := defScope s__law_times_promises) (by decide +kernel)) rfl (fun _ _ _ _ _ => rfl) (fun A outer s H E f c hr2 => (pe_fnC x_count.c (L2.takes_of rfl rfl rfl rfl) (hr2.mono (by decide)) rfl (pa_cons (pe_lst pa_nil) (pa_cons (pe_tup (pa_cons pe_int (pa_cons pe_int pa_nil))) (pa_cons (pv 3) pa_nil))))) rfl))) (pss_one (ps_ret pe_bl)) pss_nil)
      (pss_cons (ps_if (PW.pt (pw_or (qNe (K := K) hr (pe_fn c_places (hr.mono (by decide)) rfl (pa_cons (pe_lst (pa_cons (pe_tup (pa_cons pe_int (pa_cons (pv 3) pa_nil))) (pa_cons (pe_tup (pa_cons (pNeg pe_int) (pa_cons (pe_tup (pa_cons pe_int (pa_cons pe_int pa_nil))) pa_nil))) pa_nil))) (pa_cons (pv 2) pa_nil))) (pe_lst (pa_cons (pv 2) (pa_cons (pe_tup (pa_cons pe_int (pa_cons pe_int pa_nil))) pa_nil)))) (pw_or1 (qNe (K := K) hr (pe_fn c_places (hr.mono (by decide)) rfl (pa_cons (pe_lst (pa_cons (pe_tup (pa_cons pe_int (pa_cons (pv 3) pa_nil))) pa_nil)) (pa_cons (pe_tup (pa_cons (pNeg pe_int) (pa_cons pe_int pa_nil))) pa_nil))) (pe_lst (pa_cons (pe_tup (pa_cons pe_int (pa_cons pe_int pa_nil))) pa_nil)))))) (pss_one (ps_ret pe_bl)) pss_nil)
      (pss_cons (ps_if (qNe (K := K) hr (pe_fn c_places (hr.mono (by decide)) rfl (pa_cons (pe_lst pa_nil) (pa_cons (pv 2) pa_nil))) (pe_lst pa_nil)) (pss_one (ps_ret pe_bl)) pss_nil)
      (pss_cons (ps_if (qNe (K := K) hr (pe_fn c_groups (hr.mono (by decide)) rfl (pa_cons (pe_lst (pa_cons (pe_tup (pa_cons pe_int (pa_cons (pv 3) pa_nil))) (pa_cons (pe_tup (pa_cons pe_int (pa_cons (pv 2) pa_nil))) (pa_cons (pe_tup (pa_cons pe_int (pa_cons (pv 3) pa_nil))) pa_nil)))) (pa_cons (pv 3) pa_nil))) (pe_lst (pa_cons (pe_lst (pa_cons pe_int (pa_cons pe_int pa_nil))) (pa_cons (pe_lst (pa_cons pe_int pa_nil)) pa_nil)))) (pss_one (ps_ret pe_bl)) pss_nil)
      (pss_cons (ps_if (PW.pt (pw_or (qNe (K := K) hr (pe_fn c_groups (hr.mono (by decide)) rfl (pa_cons (pe_lst (pa_cons (pe_tup (pa_cons pe_int (pa_cons (pv 3) pa_nil))) (pa_cons (pe_tup (pa_cons pe_int (pa_cons (pv 3) pa_nil))) pa_nil))) (pa_cons (pv 2) pa_nil))) (pe_lst (pa_cons (pe_lst (pa_cons pe_int (pa_cons pe_int pa_nil))) pa_nil))) (pw_or1 (qNe (K := K) hr (pe_fn c_groups (hr.mono (by decide)) rfl (pa_cons (pe_lst pa_nil) (pa_cons (pv 3) pa_nil))) (pe_lst pa_nil))))) (pss_one (ps_ret pe_bl)) pss_nil)
      (pss_cons (ps_if (PW.pt (pw_or (qNe (K := K) hr (pe_fn c_later (hr.mono (by decide)) rfl (pa_cons (pe_lst (pa_cons (pe_tup (pa_cons pe_int (pa_cons (pv 3) pa_nil))) pa_nil)) (pa_cons (pe_tup (pa_cons pe_int (pa_cons pe_int pa_nil))) pa_nil))) (pe_lst (pa_cons (pe_tup (pa_cons pe_int (pa_cons (pv 2) pa_nil))) pa_nil))) (pw_or1 (qNe (K := K) hr (pe_fn c_turned (hr.mono (by decide)) rfl (pa_cons (pe_lst (pa_cons (pe_tup (pa_cons pe_int (pa_cons (pe_tup (pa_cons pe_int (pa_cons pe_int pa_nil))) pa_nil))) pa_nil)) (pa_cons (pv 2) pa_nil))) (pe_lst (pa_cons (pe_tup (pa_cons pe_int (pa_cons (pe_tup (pa_cons pe_int (pa_cons pe_int pa_nil))) pa_nil))) pa_nil)))))) (pss_one (ps_ret pe_bl)) pss_nil)
      (pss_cons (ps_if (qNe (K := K) hr (pe_fn c_mirrored (hr.mono (by decide)) rfl (pa_cons (pe_lst (pa_cons (pe_tup (pa_cons pe_int (pa_cons (pe_tup (pa_cons pe_int (pa_cons pe_int pa_nil))) pa_nil))) (pa_cons (pe_tup (pa_cons (pNeg pe_int) (pa_cons (pv 3) pa_nil))) pa_nil))) pa_nil)) (pe_lst (pa_cons (pe_tup (pa_cons (pNeg pe_int) (pa_cons (pe_tup (pa_cons pe_int (pa_cons pe_int pa_nil))) pa_nil))) (pa_cons (pe_tup (pa_cons pe_int (pa_cons (pv 3) pa_nil))) pa_nil)))) (pss_one (ps_ret pe_bl)) pss_nil)
      (pss_cons (ps_if (pt_not (qEq (K := K) hr (pe_fn c_seen_from (hr.mono (by decide)) rfl (pa_cons (pe_lst (pa_cons (pe_tup (pa_cons pe_int (pa_cons (pe_tup (pa_cons pe_int (pa_cons pe_int pa_nil))) pa_nil))) (pa_cons (pe_tup (pa_cons pe_int (pa_cons (pv 2) pa_nil))) pa_nil))) (pa_cons pe_int pa_nil))) (pe_lst (pa_cons (pe_tup (pa_cons pe_int (pa_cons (pv 3) pa_nil))) (pa_cons (pe_tup (pa_cons pe_int (pa_cons (pe_tup (pa_cons pe_int (pa_cons pe_int pa_nil))) pa_nil))) pa_nil))))) (pss_one (ps_ret pe_bl)) pss_nil)
      (pss_one (ps_ret (pEq (K := K) hr (pe_fn c_seen_from (hr.mono (by decide)) rfl (pa_cons (pe_lst (pa_cons (pe_tup (pa_cons pe_int (pa_cons (pe_tup (pa_cons pe_int (pa_cons pe_int pa_nil))) pa_nil))) (pa_cons (pe_tup (pa_cons pe_int (pa_cons (pv 2) pa_nil))) pa_nil))) (pa_cons pe_int pa_nil))) (pe_lst (pa_cons (pe_tup (pa_cons (pNeg pe_int) (pa_cons (pe_tup (pa_cons pe_int (pa_cons pe_int pa_nil))) pa_nil))) (pa_cons (pe_tup (pa_cons pe_int (pa_cons (pv 3) pa_nil))) pa_nil)))))))))))))))))))), ?_⟩
  try dsimp only [cxOf]
  have fr0 : fr (0 : Rat) = .tup [I 0, I 1] := rfl
  have half : fr (Rat.divInt 1 2) = .tup [I 1, I 2] := frk (b := 2) (by decide +kernel)
  have q14 : fr (Rat.divInt 1 4) = .tup [I 1, I 4] := frk (b := 4) (by decide +kernel)
  have q34 : fr (Rat.divInt 3 4) = .tup [I 3, I 4] := frk (b := 4) (by decide +kernel)
  have q94 : fr (Rat.divInt 9 4) = .tup [I 9, I 4] := frk (b := 4) (by decide +kernel)
  have m1 : fr (-1 : Rat) = .tup [I (-1), I 1] := frk (b := 1) (by decide +kernel)
  have p1 : fr (1 : Rat) = .tup [I 1, I 1] := frk (b := 1) (by decide +kernel)
  have p2 : fr (2 : Rat) = .tup [I 2, I 1] := frk (b := 1) (by decide +kernel)
  have p9 : fr (9 : Rat) = .tup [I 9, I 1] := frk (b := 1) (by decide +kernel)
  have m34 : fr (Rat.divInt (-3) 4) = .tup [I (-3), I 4] := frk (b := 4) (by decide +kernel)
  have m18 : fr (Rat.divInt (-1) 8) = .tup [I (-1), I 8] := frk (b := 8) (by decide +kernel)
  have q32 : fr (Rat.divInt 3 2) = .tup [I 3, I 2] := frk (b := 2) (by decide +kernel)
  have e30 : fr q30 = .tup [I ((10 : Int) ^ (30 : Int).toNat), I 1] := frk (b := 1) (by decide +kernel)
  have ok1 : HsOk oneH := hok_by (by decide +kernel)
  have ok3 : HsOk threeH := hok_by (by decide +kernel)
  have ok0 : HsOk [] := hok_by (by decide +kernel)
  have bd0 : Bd 1000 0 := bdS (by decide +kernel)
  have bdh : Bd 1000 (Rat.divInt 1 2) := bdS (by decide +kernel)
  have isB : ∀ {x : Bool}, x = false → x = false := fun h => h
  walk_at "nrm"
  refine sdl_seq (sd_asg (d := .tup [fr (Rat.divInt 1 2), fr 0]) (ev_tup (ea_cons (ev_frc half) (ea_cons (ev_frc fr0) ea_nil)) (hLen rfl)) (sg_pair ⟨rfl, ?_⟩))
  walk_at "nrm"
  refine sdl_seq (sd_if (b := false) (et_is (et_test (ev_neD (a := .lst (([Rat.divInt 1 4, 0, -1, Rat.divInt (-3) 4] : List Rat).map fun t => fr (nextF (Rat.divInt 1 4) 1 t))) (b := .lst [.tup [I 5, I 4], .tup [I 1, I 4], .tup [I (-3), I 4], .tup [I 1, I 4]]) 2 (EvS.pure (ev_lcM (gv := [5]) (l := [Rat.divInt 1 4, 0, -1, Rat.divInt (-3) 4]) (fa := fr) (fb := fun t => fr (nextF (Rat.divInt 1 4) 1 t)) (ei_list (EvS.pure (ev_lst (ea_cons (ev_frc q14) (ea_cons (ev_var rfl) (ea_cons (ev_fr2 m1 (by walk_at "ev") ev_c) (ea_cons (ev_fr2 m34 (by walk_at "ev") ev_c) ea_nil)))) (hLen rfl)))) (by decide) (by decide) fun x hx => sg_name (ev_next_time (l := oneH) (q := Rat.divInt 1 4) (n := 1) (t := x) (by walk_at "ev") ⟨ok1, by
    simp only [List.mem_cons, List.not_mem_nil, or_false] at hx
    rcases hx with rfl | rfl | rfl | rfl <;> exact bdS (by decide +kernel), told_oneH⟩))) (by walk_at "ev") ⟨rfl, rfl, by decide⟩)) (by decide +kernel)) (fun z => by cases z) (fun _ => sd_next ⟨rfl, ?_⟩))
  refine sdl_seq (sd_set (s := .p (.lst (spansL.map fun p => .tup [fr p.1, fr p.2]))) (EvS.pure (ev_lst (ea_cons (ev_tup (ea_cons (ev_frc q14) (ea_cons (ev_frc q94) ea_nil)) (hLen rfl)) (ea_cons (ev_tup (ea_cons (ev_frc q14) (ea_cons (ev_frc q14) ea_nil)) (hLen rfl)) (ea_cons (ev_tup (ea_cons (ev_frc q94) (ea_cons (ev_frc q14) ea_nil)) (hLen rfl)) (ea_cons (ev_tup (ea_cons (ev_fr2 m1 (by walk_at "ev") ev_c) (ea_cons (ev_frc p1) ea_nil)) (hLen rfl)) (ea_cons (ev_tup (ea_cons (ev_frc fr0) (ea_cons (ev_fr2 e30 (by walk_at "ev" <;> exact ⟨by decide, by decide, by decide⟩) ev_c) ea_nil)) (hLen rfl)) ea_nil))))) (hLen rfl))) ⟨rfl, ?_⟩)
  walk_at "nrm"
  have n3 : toldF threeH ≠ .always := by
    obtain ⟨ks, z⟩ := told_threeH
    rw [z]
    intro z
    cases z
  have c3 : countF threeH 0 9 = 0 := by
    obtain ⟨ks, z⟩ := told_threeH
    unfold countF
    rw [z]
  refine sdl_seq (sd_if (b := false) (et_is (et_or (a := false) (b := false) (et_is (et_test (ev_neD (a := .lst (spansL.map fun p => I (cntO p.1 p.2))) (b := .lst [I 2, I 0, I 0, I 2, I ((10 : Int) ^ (30 : Int).toNat)]) 2 (EvS.pure (ev_lcM (gv := [6, 7]) (l := spansL) (fa := fun p => .tup [fr p.1, fr p.2]) (fb := fun p => I (cntO p.1 p.2)) (ei_list (ev_var rfl)) (by decide) (by decide) fun x hx => sg_pair (by
    rw [← count_one]
    refine ev_count (l := oneH) (by walk_at "ev") ⟨ok1, ?_, ?_, by rw [told_oneH]; intro z; cases z⟩
    · unfold spansL at hx
      simp only [List.mem_cons, List.not_mem_nil, or_false] at hx
      rcases hx with rfl | rfl | rfl | rfl | rfl <;> exact bdS (by decide +kernel)
    · unfold spansL at hx
      simp only [List.mem_cons, List.not_mem_nil, or_false] at hx
      rcases hx with rfl | rfl | rfl | rfl | rfl <;> exact bdS (by decide +kernel)))) (by walk_at "ev" <;> exact ⟨by decide, by decide, by decide⟩) ⟨rfl, rfl, by decide⟩)) (by decide +kernel)) fun _ => et_is (et_test (ev_neI (i := countF threeH 0 9) (j := 0) (ev_count (l := threeH) (s := 0) (t := 9) (ea_cons (by walk_at "ev") (ea_cons (by walk_at "ev") (ea_cons (ev_frc p9) ea_nil))) ⟨ok3, bd0, bdS (by decide +kernel), n3⟩) (by walk_at "ev"))) (by rw [c3]; rfl)) rfl) (fun z => by cases z) (fun _ => sd_next ⟨rfl, ?_⟩))
  refine (sdl_ifnot (evl_lam rfl (fun E => evx_call (by walk_at "ev") (.none ok3 (by obtain ⟨ks, z⟩ := told_threeH; rw [z]; rfl))) (TX.exm TX.sO) TX.cNoTime.xc TX.kOO) rfl ?_)
  refine (sdl_ifnot (evl_lam rfl (fun E => evx_call (as := [hs [], fr 0]) (ea_cons ev_nilL (by walk_at "ev")) (.none ok0 (by rw [told_none]; rfl))) (TX.exm TX.sO) TX.cNoTime.xc TX.kOO) rfl ?_)
  refine (sdl_ifnot (evl_lam rfl (fun E => evx_call (as := [hs [], fr 2, fr 0]) (ea_cons ev_nilL (ea_cons (ev_frc p2) (by walk_at "ev"))) (.always ok0 told_none)) (TX.exm TX.sO) TX.cNoTime.xc TX.kOO) rfl ?_)
  have lst1 : ∀ {ds : Env} {ta : TE} {x : D}, EvS K ta ds (.p x) → EvS K (tLst (tCons ta tNil)) ds (.p (.lst [x])) := fun h => EvS.pure (ev_lst (ea_cons h ea_nil) (hLen rfl))
  have lst2 : ∀ {ds : Env} {ta tb : TE} {x y : D}, EvS K ta ds (.p x) → EvS K tb ds (.p y) → EvS K (tLst (tCons ta (tCons tb tNil))) ds (.p (.lst [x, y])) := fun h k => EvS.pure (ev_lst (ea_cons h (ea_cons k ea_nil)) (hLen rfl))
  have lst3 : ∀ {ds : Env} {ta tb tc : TE} {x y z : D}, EvS K ta ds (.p x) → EvS K tb ds (.p y) → EvS K tc ds (.p z) → EvS K (tLst (tCons ta (tCons tb (tCons tc tNil)))) ds (.p (.lst [x, y, z])) := fun h k m => EvS.pure (ev_lst (ea_cons h (ea_cons k (ea_cons m ea_nil))) (hLen rfl))
  refine sdl_seq (sd_if (b := false) (et_is (et_or (a := false) (b := false) (et_is (et_test (ev_neD (b := .lst [fr (Rat.divInt 1 2), fr (Rat.divInt 3 4)]) 2 (EvS.pure (ev_places (l := [(1, 0), (-1, Rat.divInt 1 4)]) (t := Rat.divInt 1 2) (ea_cons (lst2 (ev_hd2 ev_c (ev_var rfl)) (ev_hd2 (by walk_at "ev") (ev_frc q14))) (by walk_at "ev")) ⟨hok_by (by decide +kernel), bdh⟩)) (lst2 (ev_var rfl) (ev_frc q34)) ⟨rfl, rfl, by decide⟩)) (by decide +kernel))
      fun _ => et_is (et_test (ev_neD (b := .lst [fr (Rat.divInt 3 4)]) 2 (EvS.pure (ev_places (l := [(2, 0)]) (t := Rat.divInt (-1) 8) (ea_cons (lst1 (ev_hd2 ev_c (ev_var rfl))) (ea_cons (ev_fr2 m18 (by walk_at "ev") ev_c) ea_nil)) ⟨hok_by (by decide +kernel), bdS (by decide +kernel)⟩)) (lst1 (ev_frc q34)) ⟨rfl, rfl, by decide⟩)) (by decide +kernel)) rfl) (fun z => by cases z) (fun _ => sd_next ⟨rfl, ?_⟩))
  refine sdl_seq (sd_if (b := false) (et_is (et_test (ev_neD (b := .lst []) 2 (EvS.pure (ev_places (l := []) (t := Rat.divInt 1 2) (ea_cons ev_nilL (by walk_at "ev")) ⟨ok0, bdh⟩)) ev_nilL ⟨rfl, rfl, by decide⟩)) (by decide +kernel)) (fun z => by cases z) (fun _ => sd_next ⟨rfl, ?_⟩))
  have pg : ∀ {l : List Hd} {t : Rat} {m : List (List D)}, grL l t = m → (m.all fun xs => xs.all (pl 0)) = true → pl 2 (.lst ((grL l t).map D.lst)) = true := fun e h => by
    rw [e]
    show (List.map D.lst _).all (pl 1) = true
    rw [List.all_map]
    exact h
  refine sdl_seq (sd_if (b := false) (et_is (et_test (ev_neD (b := .lst [.lst [I 0, I 2], .lst [I 1]]) 2 (ev_groupsP (l := [(1, 0), (2, Rat.divInt 1 2), (5, 0)]) (t := 0) (ea_cons (lst3 (ev_hd2 ev_c (ev_var rfl)) (ev_hd2 ev_c (ev_var rfl)) (ev_hd2 ev_c (ev_var rfl))) (by walk_at "ev")) ⟨hok_by (by decide +kernel), bd0⟩) (lst2 (lst2 ev_c ev_c) (lst1 ev_c)) ⟨by decide +kernel, rfl, by decide⟩)) (by decide +kernel)) (fun z => by cases z) (fun _ => sd_next ⟨rfl, ?_⟩))
  refine sdl_seq (sd_if (b := false) (et_is (et_or (a := false) (b := false) (et_is (et_test (ev_neD (b := .lst [.lst [I 0, I 1]]) 2 (ev_groupsP (l := [(1, 0), (3, 0)]) (t := Rat.divInt 1 2) (ea_cons (lst2 (ev_hd2 ev_c (ev_var rfl)) (ev_hd2 ev_c (ev_var rfl))) (by walk_at "ev")) ⟨hok_by (by decide +kernel), bdh⟩) (lst1 (lst2 ev_c ev_c)) ⟨by decide +kernel, rfl, by decide⟩)) (by decide +kernel))
      fun _ => et_is (et_test (ev_neD (b := .lst []) 2 (ev_groupsP (l := []) (t := 0) (ea_cons ev_nilL (by walk_at "ev")) ⟨ok0, bd0⟩) ev_nilL ⟨by decide +kernel, rfl, by decide⟩)) (by decide +kernel)) rfl) (fun z => by cases z) (fun _ => sd_next ⟨rfl, ?_⟩))
  refine sdl_seq (sd_if (b := false) (et_is (et_or (a := false) (b := false) (et_is (et_test (ev_neD (b := .lst [hd (1, Rat.divInt 1 2)]) 3 (EvS.pure (ev_later (l := [(1, 0)]) (t := Rat.divInt 3 2) (ea_cons (lst1 (ev_hd2 ev_c (ev_var rfl))) (ea_cons (ev_frc q32) ea_nil)) ⟨hok_by (by decide +kernel), bdS (by decide +kernel)⟩)) (lst1 (ev_hd2 ev_c (ev_var rfl))) ⟨rfl, rfl, by decide⟩)) (by decide +kernel))
      fun _ => et_is (et_test (ev_neD (b := .lst [hd (1, Rat.divInt 1 4)]) 3 (EvS.pure (ev_turned (l := [(1, Rat.divInt 3 4)]) (t := Rat.divInt 1 2) (ea_cons (lst1 (ev_hd2 ev_c (ev_frc q34))) (by walk_at "ev")) ⟨hok_by (by decide +kernel), bdh⟩)) (lst1 (ev_hd2 ev_c (ev_frc q14))) ⟨rfl, rfl, by decide⟩)) (by decide +kernel)) rfl) (fun z => by cases z) (fun _ => sd_next ⟨rfl, ?_⟩))
  refine sdl_seq (sd_if (b := false) (et_is (et_test (ev_neD (b := .lst [hd (-2, Rat.divInt 3 4), hd (1, 0)]) 3 (EvS.pure (ev_mirrored (l := [(2, Rat.divInt 1 4), (-1, 0)]) (ea_cons (lst2 (ev_hd2 ev_c (ev_frc q14)) (ev_hd2 (by walk_at "ev") (ev_var rfl))) ea_nil) (hok_by (by decide +kernel)))) (lst2 (ev_hd2 (by walk_at "ev") (ev_frc q34)) (ev_hd2 ev_c (ev_var rfl))) ⟨rfl, rfl, by decide⟩)) (by decide +kernel)) (fun z => by cases z) (fun _ => sd_next ⟨rfl, ?_⟩))
  have ok25 : HsOk [(2, Rat.divInt 1 4), (5, Rat.divInt 1 2)] := hok_by (by decide +kernel)
  refine sdl_seq (sd_if (b := false) (et_is (et_not (a := true) (et_is (et_test (ev_eqD (b := .lst [hd (0, 0), hd (3, Rat.divInt 1 4)]) 3 (EvS.pure (ev_seen_from (l := [(2, Rat.divInt 1 4), (5, Rat.divInt 1 2)]) (k := 0) (o := (2, Rat.divInt 1 4)) (ea_cons (lst2 (ev_hd2 ev_c (ev_frc q14)) (ev_hd2 ev_c (ev_var rfl))) (ea_cons (ev_is (s := .p (I 0)) ev_c rfl) ea_nil)) ⟨ok25, rfl⟩)) (lst2 (ev_hd2 ev_c (ev_var rfl)) (ev_hd2 ev_c (ev_frc q14))) ⟨rfl, rfl, by decide⟩)) (by decide +kernel))) rfl) (fun z => by cases z) (fun _ => sd_next ⟨rfl, ?_⟩))
  exact sdl_ret (v := .bl true) (ev_is (ev_eqD (b := .lst [hd (-3, Rat.divInt 3 4), hd (0, 0)]) 3 (EvS.pure (ev_seen_from (l := [(2, Rat.divInt 1 4), (5, Rat.divInt 1 2)]) (k := 1) (o := (5, Rat.divInt 1 2)) (ea_cons (lst2 (ev_hd2 ev_c (ev_frc q14)) (ev_hd2 ev_c (ev_var rfl))) (ea_cons (ev_is (s := .p (I 1)) ev_c rfl) ea_nil)) ⟨ok25, rfl⟩)) (lst2 (ev_hd2 (by walk_at "ev") (ev_frc q34)) (ev_hd2 ev_c (ev_var rfl))) ⟨rfl, rfl, by decide⟩) (congrArg (fun x => S.p (B x)) (by decide +kernel))) rfl

/-! ### k08: kinds -/
abbrev s__law_kinds_promises : Stmt := topS 52
theorem sc__law_kinds_promises : FnScope ["_law_one", "_law_three", "_law_apart", "_law_none", "_law_kinds"] ["_law_one", "_law_three", "_law_apart", "_law_none"] (defScope s__law_kinds_promises) := ⟨rfl, rfl, rfl, by decide +kernel, rfl, by decide +kernel, by decide +kernel⟩

inductive PKindsP : List D → V → Prop
  | mk : PKindsP [hs oneH, hs threeH, hs apartH, fr 0] (.bl true)
theorem ok__law_kinds_promises {CA CT CN PT : Addr} (T : Txt K mg CA CT CN) (F : FunAt K mg "_law_kinds_promises" s__law_kinds_promises) (b : Bl mg) (c_told : Callee P w K mg base "told" 7 ["hands"] (spS K (PTold CA CT CN))) (c__law_times_promises : Callee P w K mg base "_law_times_promises" 11 ["_law_one", "_law_three"] (spT K (tT PT) PTimesP)) :
    Callee P w K mg base "_law_kinds_promises" 12 ["_law_one", "_law_three", "_law_apart", "_law_none"] (spT K (tT PT) PKindsP) := by
  refine callee_mkL F sc__law_kinds_promises (fun _ _ _ _ _ _ us hl => match us, hl with | [_, _, _, _], _ => rfl) (by rintro _ _ ⟨⟩; rfl) (fun f cdv A outer sh H E as r hr hp => ?_)
  cases hp with
  | mk =>
  refine ⟨_, (pss_cons (ps_set (i := 4) sc__law_kinds_promises.nd rfl (by first | exact Or.inl rfl | exact Or.inr rfl) (pe_lst (pa_cons (pe_callB (kIsi (K := K)) rfl b.isi_ bt_isi (pa_cons (pe_fn c_told (hr.mono (by decide)) rfl (pa_cons (pv 2) pa_nil)) (pa_cons (pe_glob (v := .ref _) rfl T.mNever rfl) pa_nil))) (pa_cons (pe_callB (kIsi (K := K)) rfl b.isi_ bt_isi (pa_cons (pe_fn c_told (hr.mono (by decide)) rfl (pa_cons (pv 1) pa_nil)) (pa_cons (pe_glob (v := .ref _) rfl T.mNever rfl) pa_nil))) pa_nil))))
      (pss_cons (ps_set (i := 4) sc__law_kinds_promises.nd rfl (by first | exact Or.inl rfl | exact Or.inr rfl) (pAdd (pv 4) (pe_lst (pa_cons (pe_callB (kIsi (K := K)) rfl b.isi_ bt_isi (pa_cons (pe_fn c_told (hr.mono (by decide)) rfl (pa_cons (pv 0) pa_nil)) (pa_cons (pe_glob (v := .ref _) rfl T.mAt rfl) pa_nil))) (pa_cons (pe_callB (kIsi (K := K)) rfl b.isi_ bt_isi (pa_cons (pe_fn c_told (hr.mono (by decide)) rfl (pa_cons (pe_lst (pa_cons (pe_tup (pa_cons pe_int (pa_cons (pv 3) pa_nil))) (pa_cons (pe_tup (pa_cons (pNeg pe_int) (pa_cons (pv 3) pa_nil))) pa_nil))) pa_nil)) (pa_cons (pe_glob (v := .ref _) rfl T.mAt rfl) pa_nil))) pa_nil)))))
      (pss_cons (ps_if (PW.pt (pw_or (qNe (K := K) hr (pv 4) (pMul (pe_lst (pa_cons pe_bl pa_nil)) pe_int)) (pw_or1 (qNe (K := K) hr (pe_tup (pa_cons (pFld (K := K) (pe_fn c_told (hr.mono (by decide)) rfl (pa_cons (pv 0) pa_nil)) rfl) (pa_cons (pFld (K := K) (pe_fn c_told (hr.mono (by decide)) rfl (pa_cons (pv 0) pa_nil)) rfl) pa_nil))) (pe_tup (pa_cons (pe_tup (pa_cons pe_int (pa_cons pe_int pa_nil))) (pa_cons (pe_tup (pa_cons pe_int (pa_cons pe_int pa_nil))) pa_nil))))))) (pss_one (ps_ret pe_bl)) pss_nil)
      (pss_cons (ps_if (qNe (K := K) hr (pFld (K := K) (pe_fn c_told (hr.mono (by decide)) rfl (pa_cons (pe_lst (pa_cons (pe_tup (pa_cons pe_int (pa_cons (pv 3) pa_nil))) (pa_cons (pe_tup (pa_cons pe_int (pa_cons (pv 3) pa_nil))) (pa_cons (pe_tup (pa_cons (pNeg pe_int) (pa_cons (pv 3) pa_nil))) pa_nil)))) pa_nil)) rfl) (pe_tup (pa_cons pe_int (pa_cons pe_int pa_nil)))) (pss_one (ps_ret pe_bl)) pss_nil)
      (pss_one (ps_ret (pe_fn c__law_times_promises (hr.mono (by decide)) rfl (pa_cons (pv 0) (pa_cons (pv 1) pa_nil))))))))), ?_⟩
  try dsimp only [cxOf]
  have ok1 : HsOk oneH := hok_by (by decide +kernel)
  have ok3 : HsOk threeH := hok_by (by decide +kernel)
  have okA : HsOk apartH := hok_by (by decide +kernel)
  have okB : HsOk backH := hok_by (by decide +kernel)
  have okF : HsOk fivesH := hok_by (by decide +kernel)
  have n3 : isNv (toldF threeH) = true := by
    obtain ⟨ks, z⟩ := told_threeH
    rw [z]
    rfl
  have ecl := T.cAt.it.cl
  have lst2 : ∀ {ds : Env} {ta tb : TE} {x y : D}, EvS K ta ds (.p x) → EvS K tb ds (.p y) → EvS K (tLst (tCons ta (tCons tb tNil))) ds (.p (.lst [x, y])) := fun h k => EvS.pure (ev_lst (ea_cons h (ea_cons k ea_nil)) (hLen rfl))
  have lst3 : ∀ {ds : Env} {ta tb tc : TE} {x y z : D}, EvS K ta ds (.p x) → EvS K tb ds (.p y) → EvS K tc ds (.p z) → EvS K (tLst (tCons ta (tCons tb (tCons tc tNil)))) ds (.p (.lst [x, y, z])) := fun h k m => EvS.pure (ev_lst (ea_cons h (ea_cons k (ea_cons m ea_nil))) (hLen rfl))
  walk_at "nrm"
  refine sdl_seq (sd_set (s := .p (.lst [B true, B true])) (lst2 (ev_is (ev_ansN T (r := toldF apartH) (ea_cons (ev_toldP (by walk_at "ev") okA) (by walk_at "ev"))) (by rw [told_apartH]; rfl)) (ev_is (ev_ansN T (r := toldF threeH) (ea_cons (ev_toldP (by walk_at "ev") ok3) (by walk_at "ev"))) (by rw [n3]))) ⟨rfl, ?_⟩)
  walk_at "nrm"
  refine sdl_seq (sd_set (s := .p (.lst [B true, B true, B true, B true])) (EvS.pure (ev_cat (xs := [B true, B true]) (ys := [B true, B true]) (by walk_at "ev") (lst2 (ev_is (ev_ansT T (r := toldF oneH) (ea_cons (ev_toldP (by walk_at "ev") ok1) (by walk_at "ev"))) (by rw [told_oneH]; rfl)) (ev_is (ev_ansT T (r := toldF backH) (ea_cons (ev_toldP (ea_cons (lst2 (ev_hd2 ev_c (ev_var rfl)) (ev_hd2 (by walk_at "ev") (ev_var rfl))) ea_nil) okB) (by walk_at "ev"))) (by rw [told_backH]; rfl))) (hLen rfl))) ⟨rfl, ?_⟩)
  walk_at "nrm"
  have t1 : ∀ {ds : Env} {ta : TA}, EvA K ta ds [hs oneH] → EvS K (tCall (spS K (PTold CA CT CN)) [] E0 ta) ds (.p (.ins CT [("first", fr (Rat.divInt 1 4)), ("every", .tup [I 1, I ((1 : Nat) : Int)])])) := fun h => ev_is (ev_toldP h ok1) (by rw [told_oneH]; rfl)
  refine sdl_seq (sd_if (b := false) (et_is (et_or (a := false) (b := false) (et_is (et_test (ev_neD (b := .lst (List.replicate (4 : Int).toNat [B true]).flatten) 1 (by walk_at "ev") (EvS.pure (ev_rep (xs := [B true]) (i := 4) (by walk_at "ev") (by walk_at "ev") ⟨by decide, by decide, by show 1 ≤ 1000; decide⟩)) ⟨rfl, rfl, by decide⟩)) (by decide +kernel))
      fun _ => et_is (et_test (ev_neD (a := .tup [fr (Rat.divInt 1 4), .tup [I 1, I ((1 : Nat) : Int)]]) (b := .tup [.tup [I 1, I 4], .tup [I 1, I 1]]) 2 (ev_tup (ea_cons (ev_fldF ecl T.nFirst (t1 (by walk_at "ev"))) (ea_cons (ev_fldE ecl T.nEvery (t1 (by walk_at "ev"))) ea_nil)) (hLen rfl)) (by walk_at "ev") ⟨rfl, rfl, by decide⟩)) (by decide +kernel)) rfl) (fun z => by cases z) (fun _ => sd_next ⟨rfl, ?_⟩))
  refine sdl_seq (sd_if (b := false) (et_is (et_test (ev_neD (a := .tup [I 1, I ((3 : Nat) : Int)]) (b := .tup [I 1, I 3]) 1 (ev_fldE ecl T.nEvery (ev_is (ev_toldP (l := fivesH) (ea_cons (lst3 (ev_hd2 ev_c (ev_var rfl)) (ev_hd2 ev_c (ev_var rfl)) (ev_hd2 (by walk_at "ev") (ev_var rfl))) ea_nil) okF) (by rw [told_fivesH]; rfl))) (by walk_at "ev") ⟨rfl, rfl, by decide⟩)) (by decide +kernel)) (fun z => by cases z) (fun _ => sd_next ⟨rfl, ?_⟩))
  exact sdl_retL (evl_call (by walk_at "ev") .mk) rfl

/-! ### k08: promises -/
def hokC (l : List Hd) : Bool := decide (l.length ≤ 63) && l.all fun h => decide (0 ≤ h.2) && decide (h.2 < 1) && decide (h.2.den < 2 ^ 20) && decide (h.1.natAbs < 2 ^ 100)
theorem hok_byC {l : List Hd} (h : hokC l = true) : HsOk l := by
  unfold hokC at h
  rw [Bool.and_eq_true] at h
  refine ⟨of_decide_eq_true h.1, fun x hx => ?_⟩
  have := List.all_eq_true.mp h.2 x hx
  simp only [Bool.and_eq_true, decide_eq_true_eq] at this
  obtain ⟨⟨⟨a, b⟩, c⟩, d⟩ := this
  exact ⟨a, b, (part_bd a b c).mono (by decide), d⟩
def alikeL : List (List Hd) := [[], [(3, Rat.divInt 1 2)], [(2, 0), (2, 0)]]
theorem alikeL_all : ∀ x ∈ alikeL, HsOk x ∧ toldF x = .always ∧ alikeB x = true ∧ atG x 0 1 1 1 = false ∧ nevB x [0, 1] (decide ([0, 1] = sortU [0, 1])) = false := by
  intro x hx
  unfold alikeL at hx
  simp only [List.mem_cons, List.not_mem_nil, or_false] at hx
  rcases hx with rfl | rfl | rfl
  · exact ⟨hok_by (by decide +kernel), told_none, by decide +kernel, by decide +kernel, by decide +kernel⟩
  · exact ⟨hok_by (by decide +kernel), told_sole, by decide +kernel, by decide +kernel, by decide +kernel⟩
  · exact ⟨hok_by (by decide +kernel), told_twice, by decide +kernel, by decide +kernel, by decide +kernel⟩
def nD (x : List Int × List Hd × Bool) : D := .tup [.lst (x.1.map I), hs x.2.1, B x.2.2]
def nc1 : List (List Int × List Hd × Bool) := [([0, 1], apartH, true), ([1, 0], apartH, false), ([0], apartH, false), ([], apartH, false)]
def nc2 : List (List Int × List Hd × Bool) := nc1 ++ [([0, 0], apartH, false), ([0, 2], apartH, false), ([0, 1, 2], threeH, true)]
def nc3 : List (List Int × List Hd × Bool) := nc2 ++ [([0, 1], threeH, false), ([0, 2], threeH, false)]
def nc4 : List (List Int × List Hd × Bool) := nc3 ++ [([0, 1, 2, 3], threeH ++ [(0, 0)], false), ([0, 1, 2], threeH ++ [(0, 0)], true)]
def nc5 : List (List Int × List Hd × Bool) := nc4 ++ [([0, 1], oneH, false)]
theorem nc_all : ∀ x ∈ nc5, HsOk x.2.1 ∧ x.1.length ≤ 60 ∧ nevB x.2.1 x.1 (decide (x.1 = sortU x.1)) = x.2.2 := by
  have h : (nc5.all fun x => hokB x.2.1 && (decide (x.1.length ≤ 60) && decide (nevB x.2.1 x.1 (decide (x.1 = sortU x.1)) = x.2.2))) = true := by decide +kernel
  intro x hx
  have := List.all_eq_true.mp h x hx
  rw [Bool.and_eq_true, Bool.and_eq_true] at this
  exact ⟨hok_by this.1, of_decide_eq_true this.2.1, of_decide_eq_true this.2.2⟩
abbrev AC := List (Int × Int × Int × Int × List Hd × Bool)
def aD (x : Int × Int × Int × Int × List Hd × Bool) : D := .tup [.tup [I x.1, I x.2.1], .tup [I x.2.2.1, I x.2.2.2.1], hs x.2.2.2.2.1, B x.2.2.2.2.2]
def ac1 : AC := [(1, 4, 1, 1, oneH, true), (5, 4, 1, 1, oneH, false), (-3, 4, 1, 1, oneH, false)]
def ac2 : AC := ac1 ++ [(2, 8, 1, 1, oneH, false), (1, 4, 1, 2, oneH, false), (1, 4, 2, 1, oneH, false)]
def ac3 : AC := ac2 ++ [(0, 1, 1, 2, backH, true)]
def ac4 : AC := ac3 ++ [(0, 1, 1, 1, backH, false)]
def ac5 : AC := ac4 ++ [(1, 2, 1, 2, backH, false), (0, 1, 0, 1, oneH, false)]
def ac6 : AC := ac5 ++ [(0, 1, 1, 3, [(5, 0), (2, 0)], true)]
def ac7 : AC := ac6 ++ [(0, 1, 1, (10 : Int) ^ (30 : Int).toNat, [((10 : Int) ^ (30 : Int).toNat, 0), (0, 0)], true)]
theorem ac_all : ∀ x ∈ ac7, HsOk x.2.2.2.2.1 ∧ (Bt 1000 x.1 ∧ Bt 1000 x.2.1 ∧ Bt 1000 x.2.2.1 ∧ Bt 1000 x.2.2.2.1) ∧ atG x.2.2.2.2.1 x.1 x.2.1 x.2.2.1 x.2.2.2.1 = x.2.2.2.2.2 := by
  have h : (ac7.all fun x => hokC x.2.2.2.2.1 && ((decide (x.1.natAbs < 2 ^ 128) && (decide (x.2.1.natAbs < 2 ^ 128) && (decide (x.2.2.1.natAbs < 2 ^ 128) && decide (x.2.2.2.1.natAbs < 2 ^ 128)))) && decide (atG x.2.2.2.2.1 x.1 x.2.1 x.2.2.1 x.2.2.2.1 = x.2.2.2.2.2))) = true := by decide +kernel
  intro x hx
  have := List.all_eq_true.mp h x hx
  rw [Bool.and_eq_true, Bool.and_eq_true, Bool.and_eq_true, Bool.and_eq_true, Bool.and_eq_true] at this
  obtain ⟨a, ⟨b, c, d, e⟩, f⟩ := this
  have k : ∀ {i : Int}, decide (i.natAbs < 2 ^ 128) = true → Bt 1000 i := fun h => Nat.lt_of_lt_of_le (of_decide_eq_true h) (Nat.pow_le_pow_right (by decide) (by decide))
  exact ⟨hok_byC a, ⟨k b, k c, k d, k e⟩, of_decide_eq_true f⟩
theorem getMap {α : Type} {l : List α} {f : α → D} {i : Nat} {d : D} (h : (l.map f)[i]? = some d) : ∃ x ∈ l, d = f x := by
  rw [List.getElem?_map] at h
  cases q : l[i]? with
  | none => rw [q] at h; cases h
  | some x => rw [q] at h; cases h; exact ⟨x, List.mem_of_getElem? q, rfl⟩
abbrev s__law_promises_right : Stmt := topS 51
theorem sc__law_promises_right : FnScope ["_law_half", "_law_none", "_law_one", "_law_three", "_law_hands", "_law_apart", "_law_cases", "_law_some", "_law_due", "_law_first", "_law_every"] [] (defScope s__law_promises_right) := ⟨rfl, rfl, rfl, by decide +kernel, rfl, by decide +kernel, by decide +kernel⟩

inductive PPromisesP : List D → V → Prop
  | mk : PPromisesP [] (.bl true)
theorem ok__law_promises_right {CA CT CN PT : Addr} (T : Txt K mg CA CT CN) (F : FunAt K mg "_law_promises_right" s__law_promises_right) (b : Bl mg) (i_At : ICallee P w K mg base CT 1 ["self", "first", "every"] (spI2 CT "first" "every")) (i_Never : ICallee P w K mg base CN 1 ["self", "some"] (spIL K CN "some"))
    (m_Always_shows : MCallee P w K mg base CA "shows" 1 ["self", "hands"] (spS K (PShowsA CA))) (m_At_shows : MCallee P w K mg base CT "shows" 5 ["self", "hands"] (spS K (PShowsT CT))) (m_Never_shows : MCallee P w K mg base CN "shows" 6 ["self", "hands"] (spS K (PShowsN CN)))
    (c_told : Callee P w K mg base "told" 7 ["hands"] (spS K (PTold CA CT CN))) (c__law_kinds_promises : Callee P w K mg base "_law_kinds_promises" 12 ["_law_one", "_law_three", "_law_apart", "_law_none"] (spT K (tT PT) PKindsP)) :
    Callee P w K mg base "_law_promises_right" 13 [] (spT K (tT PT) PPromisesP) := by
  refine callee_mkL F sc__law_promises_right (fun _ _ _ _ _ _ us hl => match us, hl with | [], _ => rfl) (by rintro _ _ ⟨⟩; rfl) (fun f cdv A outer sh H E as r hr hp => ?_)
  cases hp with
  | mk =>
  refine ⟨_, (pss_cons (ps_asg (pe_tup (pa_cons (pe_tup (pa_cons pe_int (pa_cons pe_int pa_nil))) (pa_cons (pe_tup (pa_cons pe_int (pa_cons pe_int pa_nil))) pa_nil))) (gT (K := K) (n := 2) rfl (pgs_cons (pg_name (i := 0) sc__law_promises_right.nd rfl (by first | exact Or.inl rfl | exact Or.inr rfl)) (pgs_cons (pg_name (i := 1) sc__law_promises_right.nd rfl (by first | exact Or.inl rfl | exact Or.inr rfl)) pgs_nil))))
      (pss_cons (ps_par (i := 2) (j := 3) rfl sc__law_promises_right.nd rfl rfl (by decide) rfl rfl (pa_cons (pe_lst (pa_cons (pe_tup (pa_cons pe_int (pa_cons (pv 1) pa_nil))) (pa_cons (pe_tup (pa_cons pe_int (pa_cons (pe_tup (pa_cons pe_int (pa_cons pe_int pa_nil))) pa_nil))) pa_nil))) (pa_cons (pe_lst (pa_cons (pe_tup (pa_cons pe_int (pa_cons (pv 1) pa_nil))) (pa_cons (pe_tup (pa_cons pe_int (pa_cons (pv 1) pa_nil))) (pa_cons (pe_tup (pa_cons pe_int (pa_cons (pv 0) pa_nil))) pa_nil)))) pa_nil)) rfl)
      (pss_cons (ps_for PassesOwn.never rfl (iL (K := K) (pe_lst (pa_cons (pe_lst pa_nil) (pa_cons (pe_lst (pa_cons (pe_tup (pa_cons pe_int (pa_cons (pv 0) pa_nil))) pa_nil)) (pa_cons (pe_lst (pa_cons (pe_tup (pa_cons pe_int (pa_cons (pv 1) pa_nil))) (pa_cons (pe_tup (pa_cons pe_int (pa_cons (pv 1) pa_nil))) pa_nil))) pa_nil))))) (pg_name (i := 4) sc__law_promises_right.nd rfl (by first | exact Or.inl rfl | exact Or.inr rfl)) (pss_cons (ps_if (PW.pt (pw_or (pt_not (pt_val (pe_callB (kIsi (K := K)) rfl b.isi_ bt_isi (pa_cons (pe_fn c_told (hr.mono (by decide)) rfl (pa_cons (pv 4) pa_nil)) (pa_cons (pe_glob (v := .ref _) rfl T.mAlways rfl) pa_nil))))) (pw_or (pt_not (pt_val (PE.or (pMeth m_Always_shows T.cAlways.it.cl (hr.mono (by decide)) (pe_makeO T.cAlways.mks T.iAlways T.cAlways.kp rfl T.mAlways) (pa_cons (pv 4) pa_nil)) (PE.or (pMeth m_At_shows T.cAt.it.cl (hr.mono (by decide)) (pe_makeO T.cAlways.mks T.iAlways T.cAlways.kp rfl T.mAlways) (pa_cons (pv 4) pa_nil)) (pMeth m_Never_shows T.cNever.it.cl (hr.mono (by decide)) (pe_makeO T.cAlways.mks T.iAlways T.cAlways.kp rfl T.mAlways) (pa_cons (pv 4) pa_nil)))))) (pw_or1 (pt_val (PE.or (pMeth m_Always_shows T.cAlways.it.cl (hr.mono (by decide)) (pe_mk i_At (hr.mono (by decide)) rfl T.mAt (pa_cons (pv 1) (pa_cons (pe_tup (pa_cons pe_int (pa_cons pe_int pa_nil))) pa_nil))) (pa_cons (pv 4) pa_nil)) (PE.or (pMeth m_At_shows T.cAt.it.cl (hr.mono (by decide)) (pe_mk i_At (hr.mono (by decide)) rfl T.mAt (pa_cons (pv 1) (pa_cons (pe_tup (pa_cons pe_int (pa_cons pe_int pa_nil))) pa_nil))) (pa_cons (pv 4) pa_nil)) (pMeth m_Never_shows T.cNever.it.cl (hr.mono (by decide)) (pe_mk i_At (hr.mono (by decide)) rfl T.mAt (pa_cons (pv 1) (pa_cons (pe_tup (pa_cons pe_int (pa_cons pe_int pa_nil))) pa_nil))) (pa_cons (pv 4) pa_nil))))))))) (pss_one (ps_ret pe_bl)) pss_nil)
      (pss_one (ps_if (pt_val (PE.or (pMeth m_Always_shows T.cAlways.it.cl (hr.mono (by decide)) (pe_mk i_Never (hr.mono (by decide)) rfl T.mNever (pa_cons (pe_lst (pa_cons pe_int (pa_cons pe_int pa_nil))) pa_nil)) (pa_cons (pv 4) pa_nil)) (PE.or (pMeth m_At_shows T.cAt.it.cl (hr.mono (by decide)) (pe_mk i_Never (hr.mono (by decide)) rfl T.mNever (pa_cons (pe_lst (pa_cons pe_int (pa_cons pe_int pa_nil))) pa_nil)) (pa_cons (pv 4) pa_nil)) (pMeth m_Never_shows T.cNever.it.cl (hr.mono (by decide)) (pe_mk i_Never (hr.mono (by decide)) rfl T.mNever (pa_cons (pe_lst (pa_cons pe_int (pa_cons pe_int pa_nil))) pa_nil)) (pa_cons (pv 4) pa_nil))))) (pss_one (ps_ret pe_bl)) pss_nil))))
      (pss_cons (ps_set (i := 5) sc__law_promises_right.nd rfl (by first | exact Or.inl rfl | exact Or.inr rfl) (pe_lst (pa_cons (pe_tup (pa_cons pe_int (pa_cons (pv 1) pa_nil))) (pa_cons (pe_tup (pa_cons pe_int (pa_cons (pv 0) pa_nil))) pa_nil))))
      (pss_cons (ps_set (i := 6) sc__law_promises_right.nd rfl (by first | exact Or.inl rfl | exact Or.inr rfl) (pe_lst (pa_cons (pe_tup (pa_cons (pe_lst (pa_cons pe_int (pa_cons pe_int pa_nil))) (pa_cons (pv 5) (pa_cons pe_bl pa_nil)))) (pa_cons (pe_tup (pa_cons (pe_lst (pa_cons pe_int (pa_cons pe_int pa_nil))) (pa_cons (pv 5) (pa_cons pe_bl pa_nil)))) (pa_cons (pe_tup (pa_cons (pe_lst (pa_cons pe_int pa_nil)) (pa_cons (pv 5) (pa_cons pe_bl pa_nil)))) (pa_cons (pe_tup (pa_cons (pe_lst pa_nil) (pa_cons (pv 5) (pa_cons pe_bl pa_nil)))) pa_nil))))))
      (pss_cons (ps_set (i := 6) sc__law_promises_right.nd rfl (by first | exact Or.inl rfl | exact Or.inr rfl) (pAdd (pv 6) (pe_lst (pa_cons (pe_tup (pa_cons (pe_lst (pa_cons pe_int (pa_cons pe_int pa_nil))) (pa_cons (pv 5) (pa_cons pe_bl pa_nil)))) (pa_cons (pe_tup (pa_cons (pe_lst (pa_cons pe_int (pa_cons pe_int pa_nil))) (pa_cons (pv 5) (pa_cons pe_bl pa_nil)))) (pa_cons (pe_tup (pa_cons (pe_lst (pa_cons pe_int (pa_cons pe_int (pa_cons pe_int pa_nil)))) (pa_cons (pv 3) (pa_cons pe_bl pa_nil)))) pa_nil))))))
      (pss_cons (ps_set (i := 6) sc__law_promises_right.nd rfl (by first | exact Or.inl rfl | exact Or.inr rfl) (pAdd (pv 6) (pe_lst (pa_cons (pe_tup (pa_cons (pe_lst (pa_cons pe_int (pa_cons pe_int pa_nil))) (pa_cons (pv 3) (pa_cons pe_bl pa_nil)))) (pa_cons (pe_tup (pa_cons (pe_lst (pa_cons pe_int (pa_cons pe_int pa_nil))) (pa_cons (pv 3) (pa_cons pe_bl pa_nil)))) pa_nil)))))
      (pss_cons (ps_set (i := 6) sc__law_promises_right.nd rfl (by first | exact Or.inl rfl | exact Or.inr rfl) (pAdd (pv 6) (pe_lst (pa_cons (pe_tup (pa_cons (pe_lst (pa_cons pe_int (pa_cons pe_int (pa_cons pe_int (pa_cons pe_int pa_nil))))) (pa_cons (pAdd (pv 3) (pe_lst (pa_cons (pe_tup (pa_cons pe_int (pa_cons (pv 1) pa_nil))) pa_nil))) (pa_cons pe_bl pa_nil)))) (pa_cons (pe_tup (pa_cons (pe_lst (pa_cons pe_int (pa_cons pe_int (pa_cons pe_int pa_nil)))) (pa_cons (pAdd (pv 3) (pe_lst (pa_cons (pe_tup (pa_cons pe_int (pa_cons (pv 1) pa_nil))) pa_nil))) (pa_cons pe_bl pa_nil)))) pa_nil)))))
      (pss_cons (ps_set (i := 6) sc__law_promises_right.nd rfl (by first | exact Or.inl rfl | exact Or.inr rfl) (pAdd (pv 6) (pe_lst (pa_cons (pe_tup (pa_cons (pe_lst (pa_cons pe_int (pa_cons pe_int pa_nil))) (pa_cons (pv 2) (pa_cons pe_bl pa_nil)))) pa_nil))))
      (pss_cons (ps_for PassesOwn.never rfl (iL (K := K) (pv 6)) (gT (K := K) (n := 3) rfl (pgs_cons (pg_name (i := 7) sc__law_promises_right.nd rfl (by first | exact Or.inl rfl | exact Or.inr rfl)) (pgs_cons (pg_name (i := 4) sc__law_promises_right.nd rfl (by first | exact Or.inl rfl | exact Or.inr rfl)) (pgs_cons (pg_name (i := 8) sc__law_promises_right.nd rfl (by first | exact Or.inl rfl | exact Or.inr rfl)) pgs_nil)))) (pss_one (ps_if (qNe (K := K) hr (PE.or (pMeth m_Always_shows T.cAlways.it.cl (hr.mono (by decide)) (pe_mk i_Never (hr.mono (by decide)) rfl T.mNever (pa_cons (pv 7) pa_nil)) (pa_cons (pv 4) pa_nil)) (PE.or (pMeth m_At_shows T.cAt.it.cl (hr.mono (by decide)) (pe_mk i_Never (hr.mono (by decide)) rfl T.mNever (pa_cons (pv 7) pa_nil)) (pa_cons (pv 4) pa_nil)) (pMeth m_Never_shows T.cNever.it.cl (hr.mono (by decide)) (pe_mk i_Never (hr.mono (by decide)) rfl T.mNever (pa_cons (pv 7) pa_nil)) (pa_cons (pv 4) pa_nil)))) (pv 8)) (pss_one (ps_ret pe_bl)) pss_nil)))
      (pss_cons (ps_set (i := 6) sc__law_promises_right.nd rfl (by first | exact Or.inl rfl | exact Or.inr rfl) (pe_lst (pa_cons (pe_tup (pa_cons (pe_tup (pa_cons pe_int (pa_cons pe_int pa_nil))) (pa_cons (pe_tup (pa_cons pe_int (pa_cons pe_int pa_nil))) (pa_cons (pv 2) (pa_cons pe_bl pa_nil))))) (pa_cons (pe_tup (pa_cons (pe_tup (pa_cons pe_int (pa_cons pe_int pa_nil))) (pa_cons (pe_tup (pa_cons pe_int (pa_cons pe_int pa_nil))) (pa_cons (pv 2) (pa_cons pe_bl pa_nil))))) (pa_cons (pe_tup (pa_cons (pe_tup (pa_cons (pNeg pe_int) (pa_cons pe_int pa_nil))) (pa_cons (pe_tup (pa_cons pe_int (pa_cons pe_int pa_nil))) (pa_cons (pv 2) (pa_cons pe_bl pa_nil))))) pa_nil)))))
      (pss_cons (ps_set (i := 6) sc__law_promises_right.nd rfl (by first | exact Or.inl rfl | exact Or.inr rfl) (pAdd (pv 6) (pe_lst (pa_cons (pe_tup (pa_cons (pe_tup (pa_cons pe_int (pa_cons pe_int pa_nil))) (pa_cons (pe_tup (pa_cons pe_int (pa_cons pe_int pa_nil))) (pa_cons (pv 2) (pa_cons pe_bl pa_nil))))) (pa_cons (pe_tup (pa_cons (pe_tup (pa_cons pe_int (pa_cons pe_int pa_nil))) (pa_cons (pv 0) (pa_cons (pv 2) (pa_cons pe_bl pa_nil))))) (pa_cons (pe_tup (pa_cons (pe_tup (pa_cons pe_int (pa_cons pe_int pa_nil))) (pa_cons (pe_tup (pa_cons pe_int (pa_cons pe_int pa_nil))) (pa_cons (pv 2) (pa_cons pe_bl pa_nil))))) pa_nil))))))
      (pss_cons (ps_set (i := 6) sc__law_promises_right.nd rfl (by first | exact Or.inl rfl | exact Or.inr rfl) (pAdd (pv 6) (pe_lst (pa_cons (pe_tup (pa_cons (pv 1) (pa_cons (pv 0) (pa_cons (pe_lst (pa_cons (pe_tup (pa_cons pe_int (pa_cons (pv 1) pa_nil))) (pa_cons (pe_tup (pa_cons (pNeg pe_int) (pa_cons (pv 1) pa_nil))) pa_nil))) (pa_cons pe_bl pa_nil))))) pa_nil))))
      (pss_cons (ps_set (i := 6) sc__law_promises_right.nd rfl (by first | exact Or.inl rfl | exact Or.inr rfl) (pAdd (pv 6) (pe_lst (pa_cons (pe_tup (pa_cons (pv 1) (pa_cons (pe_tup (pa_cons pe_int (pa_cons pe_int pa_nil))) (pa_cons (pe_lst (pa_cons (pe_tup (pa_cons pe_int (pa_cons (pv 1) pa_nil))) (pa_cons (pe_tup (pa_cons (pNeg pe_int) (pa_cons (pv 1) pa_nil))) pa_nil))) (pa_cons pe_bl pa_nil))))) pa_nil))))
      (pss_cons (ps_set (i := 6) sc__law_promises_right.nd rfl (by first | exact Or.inl rfl | exact Or.inr rfl) (pAdd (pv 6) (pe_lst (pa_cons (pe_tup (pa_cons (pv 0) (pa_cons (pv 0) (pa_cons (pe_lst (pa_cons (pe_tup (pa_cons pe_int (pa_cons (pv 1) pa_nil))) (pa_cons (pe_tup (pa_cons (pNeg pe_int) (pa_cons (pv 1) pa_nil))) pa_nil))) (pa_cons pe_bl pa_nil))))) (pa_cons (pe_tup (pa_cons (pv 1) (pa_cons (pv 1) (pa_cons (pv 2) (pa_cons pe_bl pa_nil))))) pa_nil)))))
      (pss_cons (ps_set (i := 6) sc__law_promises_right.nd rfl (by first | exact Or.inl rfl | exact Or.inr rfl) (pAdd (pv 6) (pe_lst (pa_cons (pe_tup (pa_cons (pv 1) (pa_cons (pe_tup (pa_cons pe_int (pa_cons pe_int pa_nil))) (pa_cons (pe_lst (pa_cons (pe_tup (pa_cons pe_int (pa_cons (pv 1) pa_nil))) (pa_cons (pe_tup (pa_cons pe_int (pa_cons (pv 1) pa_nil))) pa_nil))) (pa_cons pe_bl pa_nil))))) pa_nil))))
      (pss_cons (ps_set (i := 6) sc__law_promises_right.nd rfl (by first | exact Or.inl rfl | exact Or.inr rfl) (pAdd (pv 6) (pe_lst (pa_cons (pe_tup (pa_cons (pv 1) (pa_cons (pe_tup (pa_cons pe_int (pa_cons (pPow pe_int pe_int) pa_nil))) (pa_cons (pe_lst (pa_cons (pe_tup (pa_cons (pPow pe_int pe_int) (pa_cons (pv 1) pa_nil))) (pa_cons (pe_tup (pa_cons pe_int (pa_cons (pv 1) pa_nil))) pa_nil))) (pa_cons pe_bl pa_nil))))) pa_nil))))
      (pss_cons (ps_for PassesOwn.never rfl (iL (K := K) (pv 6)) (gT (K := K) (n := 4) rfl (pgs_cons (pg_name (i := 9) sc__law_promises_right.nd rfl (by first | exact Or.inl rfl | exact Or.inr rfl)) (pgs_cons (pg_name (i := 10) sc__law_promises_right.nd rfl (by first | exact Or.inl rfl | exact Or.inr rfl)) (pgs_cons (pg_name (i := 4) sc__law_promises_right.nd rfl (by first | exact Or.inl rfl | exact Or.inr rfl)) (pgs_cons (pg_name (i := 8) sc__law_promises_right.nd rfl (by first | exact Or.inl rfl | exact Or.inr rfl)) pgs_nil))))) (pss_one (ps_if (qNe (K := K) hr (PE.or (pMeth m_Always_shows T.cAlways.it.cl (hr.mono (by decide)) (pe_mk i_At (hr.mono (by decide)) rfl T.mAt (pa_cons (pv 9) (pa_cons (pv 10) pa_nil))) (pa_cons (pv 4) pa_nil)) (PE.or (pMeth m_At_shows T.cAt.it.cl (hr.mono (by decide)) (pe_mk i_At (hr.mono (by decide)) rfl T.mAt (pa_cons (pv 9) (pa_cons (pv 10) pa_nil))) (pa_cons (pv 4) pa_nil)) (pMeth m_Never_shows T.cNever.it.cl (hr.mono (by decide)) (pe_mk i_At (hr.mono (by decide)) rfl T.mAt (pa_cons (pv 9) (pa_cons (pv 10) pa_nil))) (pa_cons (pv 4) pa_nil)))) (pv 8)) (pss_one (ps_ret pe_bl)) pss_nil)))
      (pss_one (ps_ret (pe_fn c__law_kinds_promises (hr.mono (by decide)) rfl (pa_cons (pv 2) (pa_cons (pv 3) (pa_cons (pv 5) (pa_cons (pv 1) pa_nil))))))))))))))))))))))))), ?_⟩
  try dsimp only [cxOf]
  have half : fr (Rat.divInt 1 2) = .tup [I 1, I 2] := frk (b := 2) (by decide +kernel)
  have q14 : fr (Rat.divInt 1 4) = .tup [I 1, I 4] := frk (b := 4) (by decide +kernel)
  have vH : ∀ {ds : Env}, ds[0]? = some (some (.p (.tup [I 1, I 2]))) → EvS K (tVar 0) ds (.p (fr (Rat.divInt 1 2))) := fun h => by rw [half]; exact ev_var h
  have vN : ∀ {ds : Env}, ds[1]? = some (some (.p (.tup [I 0, I 1]))) → EvS K (tVar 1) ds (.p (fr 0)) := fun h => ev_var h
  have lst1 : ∀ {ds : Env} {ta : TE} {x : D}, EvS K ta ds (.p x) → EvS K (tLst (tCons ta tNil)) ds (.p (.lst [x])) := fun h => EvS.pure (ev_lst (ea_cons h ea_nil) (hLen rfl))
  have lst2 : ∀ {ds : Env} {ta tb : TE} {x y : D}, EvS K ta ds (.p x) → EvS K tb ds (.p y) → EvS K (tLst (tCons ta (tCons tb tNil))) ds (.p (.lst [x, y])) := fun h k => EvS.pure (ev_lst (ea_cons h (ea_cons k ea_nil)) (hLen rfl))
  have lst3 : ∀ {ds : Env} {ta tb tc : TE} {x y z : D}, EvS K ta ds (.p x) → EvS K tb ds (.p y) → EvS K tc ds (.p z) → EvS K (tLst (tCons ta (tCons tb (tCons tc tNil)))) ds (.p (.lst [x, y, z])) := fun h k m => EvS.pure (ev_lst (ea_cons h (ea_cons k (ea_cons m ea_nil))) (hLen rfl))
  walk_at "nrm"
  refine sdl_seq (sd_asg (d := .tup [.tup [I 1, I 2], .tup [I 0, I 1]]) (by walk_at "ev") (sg_pair ⟨rfl, ?_⟩))
  walk_at "nrm"
  refine sdl_seq (sd_par (a := hs oneH) (b := hs threeH) (ea_cons (lst2 (ev_hd2 ev_c (vN rfl)) (ev_hd2 ev_c (ev_frc q14))) (ea_cons (lst3 (ev_hd2 ev_c (vN rfl)) (ev_hd2 ev_c (vN rfl)) (ev_hd2 ev_c (vH rfl))) ea_nil)) ⟨rfl, ?_⟩)
  walk_at "nrm"
  refine sdl_seqE [some (.p (.tup [I 1, I 2])), some (.p (.tup [I 0, I 1])), some (.p (hs oneH)), some (.p (hs threeH)), none, none, none, none, none, none, none] rfl (sd_forS (gv := [4]) (xs := alikeL.map hs) (ei_list (lst3 ev_nilL (lst1 (ev_hd2 ev_c (vH rfl))) (lst2 (ev_hd2 ev_c (vN rfl)) (ev_hd2 ev_c (vN rfl))))) (fun _ => [some (.p (.tup [I 1, I 2])), some (.p (.tup [I 0, I 1])), some (.p (hs oneH)), some (.p (hs threeH)), none, none, none, none, none, none, none]) (Sub.refl _) (fun i d hd' => ?_) (Sub.refl _)) ?_
  · obtain ⟨x, hx, rfl⟩ := getMap hd'
    obtain ⟨h, h1, h2, h3, h4⟩ := alikeL_all x hx
    have z1 : ∀ {i : Int}, i.natAbs < 2 ^ 20 → Bt 1000 i := fun h => Bt.sm h (by decide)
    refine sg_name ?_
    walk_at "nrm"
    refine sd_seq (sd_if (b := false) (et_is (et_or (a := false) (b := false) (et_is (et_not (a := true) (et_B (ev_is (ev_ansA T (r := toldF x) (ea_cons (ev_toldP (by walk_at "ev") h) (by walk_at "ev"))) (by rw [h1]; rfl)))) rfl) fun _ => et_or (a := false) (b := false) (et_is (et_not (a := true) (et_B (ev_is (ev_showsA ev_make0 (by walk_at "ev") h) (by rw [h2])))) rfl) fun _ => et_B (ev_is (ev_showsT (a := 0) (b := 1) (c := 1) (d := 1) (ev_make2 (by walk_at "ev")) (by walk_at "ev") h ⟨z1 (by decide), z1 (by decide), z1 (by decide), z1 (by decide)⟩) (by rw [h3]))) rfl) (fun z => by cases z) (fun _ => sd_next ?_))
    exact sd_if (b := false) (et_B (ev_is (ev_showsN (ks := [0, 1]) (ev_makeL (xs := [I 0, I 1]) (by walk_at "ev")) (by walk_at "ev") h (by decide)) (by rw [h4]))) (fun z => by cases z) (fun _ => sd_next (.keep (.keep (.keep (.keep (.drop (.keep (.keep (.keep (.keep (.keep (.keep .nil))))))))))))
  refine sdl_seq (sd_set (s := .p (hs apartH)) (lst2 (ev_hd2 ev_c (vN rfl)) (ev_hd2 ev_c (vH rfl))) ⟨rfl, ?_⟩)
  walk_at "nrm"
  refine sdl_seq (sd_set (s := .p (.lst (nc1.map nD))) (ev_is (EvS.pure (ev_lst (by walk_at "ev") (by exact hLen rfl))) (by exact rfl)) ⟨rfl, ?_⟩)
  walk_at "nrm"
  refine sdl_seq (sd_set (s := .p (.lst (nc2.map nD))) (ev_is (EvS.pure (ev_cat (by walk_at "ev") (EvS.pure (ev_lst (by walk_at "ev") (by exact hLen rfl))) (by exact hLen rfl))) rfl) ⟨rfl, ?_⟩)
  walk_at "nrm"
  refine sdl_seq (sd_set (s := .p (.lst (nc3.map nD))) (ev_is (EvS.pure (ev_cat (by walk_at "ev") (EvS.pure (ev_lst (by walk_at "ev") (by exact hLen rfl))) (by exact hLen rfl))) rfl) ⟨rfl, ?_⟩)
  walk_at "nrm"
  have th4 : ∀ {ds : Env}, ds[1]? = some (some (.p (.tup [I 0, I 1]))) → ds[3]? = some (some (.p (hs threeH))) → EvS K (tOp rAdd (tVar 3) (tLst (tCons (tTup (tCons (tC (.int 0)) (tCons (tVar 1) tNil))) tNil))) ds (.p (hs (threeH ++ [(0, 0)]))) := fun h1 h3 => ev_is (EvS.pure (ev_cat (xs := threeH.map hd) (ev_var h3) (lst1 (ev_hd2 ev_c (vN h1))) (by exact hLen rfl))) rfl
  refine sdl_seq (sd_set (s := .p (.lst (nc4.map nD))) (ev_is (EvS.pure (ev_cat (by walk_at "ev") (lst2 (ev_tup (ea_cons (by walk_at "ev") (ea_cons (th4 rfl rfl) (by walk_at "ev"))) (by exact hLen rfl)) (ev_tup (ea_cons (by walk_at "ev") (ea_cons (th4 rfl rfl) (by walk_at "ev"))) (by exact hLen rfl))) (by exact hLen rfl))) rfl) ⟨rfl, ?_⟩)
  walk_at "nrm"
  refine sdl_seq (sd_set (s := .p (.lst (nc5.map nD))) (ev_is (EvS.pure (ev_cat (by walk_at "ev") (EvS.pure (ev_lst (by walk_at "ev") (by exact hLen rfl))) (by exact hLen rfl))) rfl) ⟨rfl, ?_⟩)
  walk_at "nrm"
  refine sdl_seqE [some (.p (.tup [I 1, I 2])), some (.p (.tup [I 0, I 1])), some (.p (hs oneH)), some (.p (hs threeH)), none, some (.p (hs apartH)), none, none, none, none, none] rfl (sd_forS (gv := [7, 4, 8]) (xs := nc5.map nD) (ei_list (ev_var rfl)) (fun _ => [some (.p (.tup [I 1, I 2])), some (.p (.tup [I 0, I 1])), some (.p (hs oneH)), some (.p (hs threeH)), none, some (.p (hs apartH)), none, none, none, none, none]) (.keep (.keep (.keep (.keep (.keep (.keep (.drop (.keep (.keep (.keep (.keep .nil))))))))))) (fun i d hd' => ?_) (Sub.refl _)) ?_
  · obtain ⟨x, hx, rfl⟩ := getMap hd'
    obtain ⟨h, h1, h2⟩ := nc_all x hx
    refine sg_triple (a := .lst (x.1.map I)) (b := hs x.2.1) (c := B x.2.2) ?_
    walk_at "nrm"
    exact sd_if (b := false) (et_is (et_test (ev_neB (ev_showsN (l := x.2.1) (ks := x.1) (ev_makeL (by walk_at "ev")) (by walk_at "ev") h h1) (by walk_at "ev"))) (by rw [h2]; simp)) (fun z => by cases z) (fun _ => sd_next (.keep (.keep (.keep (.keep (.drop (.keep (.keep (.drop (.drop (.keep (.keep .nil))))))))))))
  refine sdl_seq (sd_set (s := .p (.lst (ac1.map aD))) (ev_is (EvS.pure (ev_lst (by walk_at "ev") (by exact hLen rfl))) (by exact rfl)) ⟨rfl, ?_⟩)
  walk_at "nrm"
  refine sdl_seq (sd_set (s := .p (.lst (ac2.map aD))) (ev_is (EvS.pure (ev_cat (by walk_at "ev") (EvS.pure (ev_lst (by walk_at "ev") (by exact hLen rfl))) (by exact hLen rfl))) rfl) ⟨rfl, ?_⟩)
  walk_at "nrm"
  refine sdl_seq (sd_set (s := .p (.lst (ac3.map aD))) (ev_is (EvS.pure (ev_cat (by walk_at "ev") (EvS.pure (ev_lst (by walk_at "ev") (by exact hLen rfl))) (by exact hLen rfl))) rfl) ⟨rfl, ?_⟩)
  walk_at "nrm"
  refine sdl_seq (sd_set (s := .p (.lst (ac4.map aD))) (ev_is (EvS.pure (ev_cat (by walk_at "ev") (EvS.pure (ev_lst (by walk_at "ev") (by exact hLen rfl))) (by exact hLen rfl))) rfl) ⟨rfl, ?_⟩)
  walk_at "nrm"
  refine sdl_seq (sd_set (s := .p (.lst (ac5.map aD))) (ev_is (EvS.pure (ev_cat (by walk_at "ev") (EvS.pure (ev_lst (by walk_at "ev") (by exact hLen rfl))) (by exact hLen rfl))) rfl) ⟨rfl, ?_⟩)
  walk_at "nrm"
  refine sdl_seq (sd_set (s := .p (.lst (ac6.map aD))) (ev_is (EvS.pure (ev_cat (by walk_at "ev") (EvS.pure (ev_lst (by walk_at "ev") (by exact hLen rfl))) (by exact hLen rfl))) rfl) ⟨rfl, ?_⟩)
  walk_at "nrm"
  refine sdl_seq (sd_set (s := .p (.lst (ac7.map aD))) (ev_is (EvS.pure (ev_cat (by walk_at "ev") (EvS.pure (ev_lst (by walk_at "ev" <;> exact ⟨by decide, by decide, by decide⟩) (by exact hLen rfl))) (by exact hLen rfl))) rfl) ⟨rfl, ?_⟩)
  walk_at "nrm"
  refine sdl_seqE [some (.p (.tup [I 1, I 2])), some (.p (.tup [I 0, I 1])), some (.p (hs oneH)), some (.p (hs threeH)), none, some (.p (hs apartH)), none, none, none, none, none] rfl (sd_forS (gv := [9, 10, 4, 8]) (xs := ac7.map aD) (ei_list (ev_var rfl)) (fun _ => [some (.p (.tup [I 1, I 2])), some (.p (.tup [I 0, I 1])), some (.p (hs oneH)), some (.p (hs threeH)), none, some (.p (hs apartH)), none, none, none, none, none]) (.keep (.keep (.keep (.keep (.keep (.keep (.drop (.keep (.keep (.keep (.keep .nil))))))))))) (fun i d hd' => ?_) (Sub.refl _)) ?_
  · obtain ⟨x, hx, rfl⟩ := getMap hd'
    obtain ⟨h, h1, h2⟩ := ac_all x hx
    refine sg_four (a := .tup [I x.1, I x.2.1]) (b := .tup [I x.2.2.1, I x.2.2.2.1]) (c := hs x.2.2.2.2.1) (f := B x.2.2.2.2.2) ?_
    walk_at "nrm"
    exact sd_if (b := false) (et_is (et_test (ev_neB (ev_showsT (l := x.2.2.2.2.1) (a := x.1) (b := x.2.1) (c := x.2.2.1) (d := x.2.2.2.1) (ev_make2 (by walk_at "ev")) (by walk_at "ev") h h1) (by walk_at "ev"))) (by rw [h2]; simp)) (fun z => by cases z) (fun _ => sd_next (.keep (.keep (.keep (.keep (.drop (.keep (.keep (.keep (.drop (.drop (.drop .nil))))))))))))
  exact sdl_retL (evl_call (as := [hs oneH, hs threeH, hs apartH, fr 0]) (ea_cons (ev_var rfl) (ea_cons (ev_var rfl) (ea_cons (ev_var rfl) (ea_cons (vN rfl) ea_nil)))) .mk) rfl

/-! ### k08: the law -/
theorem pe_fn0 {X : Cx} {name : Str} {k : Nat} {ps : List Str} {sp : Sp} {p pos : Pos} (C : Callee X.prog X.w X.K X.mg X.base name k ps sp) (hr : Room k X.A) (hg : Gl X name) (hdb : (name == ("__debug__" : Str)) = false := by decide) : PE X (.Call (.Name name p) [] [] pos) (tCall sp [] E0 tNil) := by
  obtain ⟨f, fd, F, hm, hk, hb⟩ := C
  exact pe_call0 F hr hg hm hk hb .nil pass0 hdb
abbrev s_law : Stmt := topS 53
theorem sc_law : FnScope ["_law_script", "_law_whole", "_law_number_here", "_law_two", "_law_three", "_law_rows", "_law_hands", "_law_time"] ["_law_script"] (defScope s_law) := ⟨rfl, rfl, rfl, by decide +kernel, rfl, by decide +kernel, by decide +kernel⟩

theorem ok_law {PT f : Addr} {fd : FuncData} (F : Fun K "law" "law" s_law f fd) (b : Bl mg) (c__law_promises_right : Callee P w K mg base "_law_promises_right" 13 [] (spT K (tT PT) PPromisesP)) (c__law_number : Callee P w K mg base "_law_number" 1 ["_law_cell", "_law_at", "_law_whole"] (spS K PLNum)) (c__law_hands_right : Callee P w K mg base "_law_hands_right" 9 ["_law_hands", "_law_time"] (spS K PLHandsRight)) :
    FnOk P w K mg base CX0 14 f fd ["_law_script"] (spT K (tT PT) PScriptL) := by
  refine fnok_mkL F sc_law (by rintro _ _ ⟨ns, rfl, _⟩; rfl) (fun cdv A outer sh H E as r hr hp => ?_)
  obtain ⟨ns, rfl, hl, hb, rfl⟩ := hp
  refine ⟨_, (pss_cons (ps_if (pt_not (pt_val (pe_fn0 c__law_promises_right (hr.mono (by decide)) rfl))) (pss_one (ps_ret pe_bl)) pss_nil)
      (pss_cons (ps_set (i := 1) sc_law.nd rfl (by first | exact Or.inl rfl | exact Or.inr rfl) (pe_callB call_abs rfl b.abs_ bt_abs (pa_cons (pe_callB (kSum (K := K) rfl) rfl b.sum_ bt_sum (pa_cons (pe_slice (kSl (K := K)) (pv 0) po_none (po_some pe_int)) pa_nil)) pa_nil)))
      (pss_cons (ps_set (i := 2) sc_law.nd rfl (by first | exact Or.inl rfl | exact Or.inr rfl) (pDiv (pe_callB call_abs rfl b.abs_ bt_abs (pa_cons (pe_fn c__law_number (hr.mono (by decide)) rfl (pa_cons (pv 1) (pa_cons pe_int (pa_cons pe_int pa_nil)))) pa_nil)) pe_int))
      (pss_cons (ps_set (i := 3) sc_law.nd rfl (by first | exact Or.inl rfl | exact Or.inr rfl) (pe_lst (pa_cons (pe_tup (pa_cons (pAdd pe_int (pMod (pv 2) pe_int)) (pa_cons (pe_tup (pa_cons pe_int (pa_cons pe_int pa_nil))) pa_nil))) (pa_cons (pe_tup (pa_cons (pAdd pe_int (pMod (pDiv (pv 2) pe_int) pe_int)) (pa_cons (pe_tup (pa_cons pe_int (pa_cons pe_int pa_nil))) pa_nil))) pa_nil))))
      (pss_cons (ps_set (i := 4) sc_law.nd rfl (by first | exact Or.inl rfl | exact Or.inr rfl) (pAdd (pv 3) (pe_lst (pa_cons (pe_tup (pa_cons (pSub (pMod (pDiv (pv 2) pe_int) pe_int) pe_int) (pa_cons (pe_tup (pa_cons pe_int (pa_cons pe_int pa_nil))) pa_nil))) pa_nil))))
      (pss_cons (ps_set (i := 5) sc_law.nd rfl (by first | exact Or.inl rfl | exact Or.inr rfl) (pe_lst (pa_cons (pv 3) (pa_cons (pv 4) (pa_cons (pe_lst pa_nil) (pa_cons (pe_lst (pa_cons (pe_tup (pa_cons pe_int (pa_cons (pe_tup (pa_cons pe_int (pa_cons pe_int pa_nil))) pa_nil))) pa_nil)) (pa_cons (pe_lst (pa_cons (pe_tup (pa_cons pe_int (pa_cons (pe_tup (pa_cons pe_int (pa_cons pe_int pa_nil))) pa_nil))) (pa_cons (pe_tup (pa_cons pe_int (pa_cons (pe_tup (pa_cons pe_int (pa_cons pe_int pa_nil))) pa_nil))) pa_nil))) (pa_cons (pe_lst (pa_cons (pe_tup (pa_cons pe_int (pa_cons (pe_tup (pa_cons pe_int (pa_cons pe_int pa_nil))) pa_nil))) (pa_cons (pe_tup (pa_cons pe_int (pa_cons (pe_tup (pa_cons pe_int (pa_cons pe_int pa_nil))) pa_nil))) pa_nil))) pa_nil))))))))
      (pss_cons (ps_for PassesOwn.never rfl (iL (K := K) (pAdd (pv 5) (pe_lst (pa_cons (pe_lst (pa_cons (pe_tup (pa_cons pe_int (pa_cons (pe_tup (pa_cons pe_int (pa_cons pe_int pa_nil))) pa_nil))) (pa_cons (pe_tup (pa_cons pe_int (pa_cons (pe_tup (pa_cons pe_int (pa_cons pe_int pa_nil))) pa_nil))) pa_nil))) pa_nil)))) (pg_name (i := 6) sc_law.nd rfl (by first | exact Or.inl rfl | exact Or.inr rfl)) (pss_one (ps_for PassesOwn.never rfl (iL (K := K) (pe_lst (pa_cons (pe_tup (pa_cons pe_int (pa_cons pe_int pa_nil))) (pa_cons (pe_tup (pa_cons (pAdd pe_int (pMod (pv 1) pe_int)) (pa_cons pe_int pa_nil))) (pa_cons (pe_tup (pa_cons pe_int (pa_cons pe_int pa_nil))) (pa_cons (pe_tup (pa_cons (pNeg pe_int) (pa_cons pe_int pa_nil))) pa_nil)))))) (pg_name (i := 7) sc_law.nd rfl (by first | exact Or.inl rfl | exact Or.inr rfl)) (pss_one (ps_if (pt_not (pt_val (pe_fn c__law_hands_right (hr.mono (by decide)) rfl (pa_cons (pv 6) (pa_cons (pv 7) pa_nil))))) (pss_one (ps_ret pe_bl)) pss_nil)))))
      (pss_one (ps_ret pe_bl))))))))), ?_⟩
  try dsimp only [cxOf]
  have fr0 : fr (0 : Rat) = .tup [I 0, I 1] := rfl
  have half : fr (Rat.divInt 1 2) = .tup [I 1, I 2] := frk (b := 2) (by decide +kernel)
  have q14 : fr (Rat.divInt 1 4) = .tup [I 1, I 4] := frk (b := 4) (by decide +kernel)
  have q13 : fr (Rat.divInt 1 3) = .tup [I 1, I 3] := frk (b := 3) (by decide +kernel)
  have m13 : fr (Rat.divInt (-1) 3) = .tup [I (-1), I 3] := frk (b := 3) (by decide +kernel)
  have dv : ∀ {i j : Int}, 0 < j → j.natAbs < 2 ^ 30 → CDivW i j := fun h1 h2 => Bt.div h1 h2 (by decide) (by decide)
  have lst1 : ∀ {ds : Env} {ta : TE} {x : D}, EvS K ta ds (.p x) → EvS K (tLst (tCons ta tNil)) ds (.p (.lst [x])) := fun h => EvS.pure (ev_lst (ea_cons h ea_nil) (hLen rfl))
  have lst2 : ∀ {ds : Env} {ta tb : TE} {x y : D}, EvS K ta ds (.p x) → EvS K tb ds (.p y) → EvS K (tLst (tCons ta (tCons tb tNil))) ds (.p (.lst [x, y])) := fun h k => EvS.pure (ev_lst (ea_cons h (ea_cons k ea_nil)) (hLen rfl))
  walk_at "nrm"
  refine sdl_ifnot (evl_call (Pr := PPromisesP) ea_nil .mk) rfl ?_
  refine sdl_seq (sd_set (s := .p (I (ns.sum.natAbs : Int))) (ev_abs (ea_cons (ev_sum (ea_cons (EvS.pure (ev_is (ev_slF (xs := ns.map I) (lo := none) (hi := some 63) (by walk_at "ev") eo_none (eo_some (by walk_at "ev"))) (by rw [show (63 : Int) = ((63 : Nat) : Int) from rfl, cutD_take, List.take_of_length_le (by rw [List.length_map]; exact hl)]))) ea_nil)) ea_nil)) ⟨rfl, ?_⟩)
  generalize hw : (ns.sum.natAbs : Int) = w0
  have hw0 : 0 ≤ w0 := by omega
  walk_at "nrm"
  refine sdl_seq (sd_set (s := .p (I (((numK w0).natAbs : Int) / 3))) (ev_div (ev_abs (ea_cons (ev_call (by walk_at "ev") ⟨hw0⟩) ea_nil)) (by walk_at "ev") (dv (by decide) (by decide))) ⟨rfl, ?_⟩)
  generalize hn : ((numK w0).natAbs : Int) / 3 = n
  walk_at "nrm"
  have a1 := Int.emod_nonneg n (show (9 : Int) ≠ 0 by decide)
  have a2 := Int.emod_lt_of_pos n (show (0 : Int) < 9 by decide)
  have b1 := Int.emod_nonneg (n / 9) (show (9 : Int) ≠ 0 by decide)
  have b2 := Int.emod_lt_of_pos (n / 9) (show (0 : Int) < 9 by decide)
  have c1 := Int.emod_nonneg (n / 81) (show (40 : Int) ≠ 0 by decide)
  have c2 := Int.emod_lt_of_pos (n / 81) (show (0 : Int) < 40 by decide)
  have t1 := Int.emod_nonneg w0 (show (40 : Int) ≠ 0 by decide)
  have t2 := Int.emod_lt_of_pos w0 (show (0 : Int) < 40 by decide)
  have p20 : (100 : Nat) < 2 ^ 20 := by decide
  refine sdl_seq (sd_set (s := .p (hs [(1 + n % 9, 0), (20 + n / 9 % 9, Rat.divInt 1 2)])) (lst2 (ev_hd2 (by walk_at "ev" <;> exact (by decide : (0 : Int) < 9)) (ev_frc fr0)) (ev_hd2 (by
    walk_at "ev"
    · exact dv (by decide) (by decide)
    · exact (by decide : (0 : Int) < 9)) (ev_frc half))) ⟨rfl, ?_⟩)
  walk_at "nrm"
  refine sdl_seq (sd_set (s := .p (hs [(1 + n % 9, 0), (20 + n / 9 % 9, Rat.divInt 1 2), (n / 81 % 40 - 20, Rat.divInt 1 3)])) (EvS.pure (ev_cat (xs := [hd (1 + n % 9, 0), hd (20 + n / 9 % 9, Rat.divInt 1 2)]) (ys := [hd (n / 81 % 40 - 20, Rat.divInt 1 3)]) (ev_var rfl) (lst1 (ev_hd2 (by
    walk_at "ev"
    · exact dv (by decide) (by decide)
    · exact (by decide : (0 : Int) < 40)) (ev_frc q13))) (hLen rfl))) ⟨rfl, ?_⟩)
  walk_at "nrm"
  generalize h2 : 1 + n % 9 = r1 at *
  generalize h3 : 20 + n / 9 % 9 = r2 at *
  generalize h4 : n / 81 % 40 - 20 = r3 at *
  have okR : ∀ l ∈ ([[(r1, 0), (r2, Rat.divInt 1 2)], [(r1, 0), (r2, Rat.divInt 1 2), (r3, Rat.divInt 1 3)], [], [(5, Rat.divInt 1 4)], [(2, 0), (2, Rat.divInt 1 2)], [(1, 0), (12, 0)], [(0, 0), (1, 0)]] : List (List Hd)), HsOk l := by
    have k1 : HOk (r1, 0) := hok_small (by decide) (by decide) (by decide) (by omega)
    have k2 : HOk (r2, Rat.divInt 1 2) := hok_small (by decide +kernel) (by decide +kernel) (by decide +kernel) (by omega)
    have k3 : HOk (r3, Rat.divInt 1 3) := hok_small (by decide +kernel) (by decide +kernel) (by decide +kernel) (by omega)
    intro l hl
    simp only [List.mem_cons, List.not_mem_nil, or_false] at hl
    rcases hl with rfl | rfl | rfl | rfl | rfl | rfl | rfl
    · exact ⟨by show 2 ≤ 63; decide, fun x hx => by
        simp only [List.mem_cons, List.not_mem_nil, or_false] at hx
        rcases hx with rfl | rfl <;> assumption⟩
    · exact ⟨by show 3 ≤ 63; decide, fun x hx => by
        simp only [List.mem_cons, List.not_mem_nil, or_false] at hx
        rcases hx with rfl | rfl | rfl <;> assumption⟩
    all_goals exact hok_by (by decide +kernel)
  refine sdl_seq (sd_set (s := .p (.lst (([[(r1, 0), (r2, Rat.divInt 1 2)], [(r1, 0), (r2, Rat.divInt 1 2), (r3, Rat.divInt 1 3)], [], [(5, Rat.divInt 1 4)], [(2, 0), (2, Rat.divInt 1 2)], [(1, 0), (12, 0)]] : List (List Hd)).map hs))) (EvS.pure (ev_lst (ea_cons (ev_var rfl) (ea_cons (ev_var rfl) (ea_cons ev_nilL (ea_cons (lst1 (ev_hd2 ev_c (ev_frc q14))) (ea_cons (lst2 (ev_hd2 ev_c (ev_frc fr0)) (ev_hd2 ev_c (ev_frc half))) (ea_cons (lst2 (ev_hd2 ev_c (ev_frc fr0)) (ev_hd2 ev_c (ev_frc fr0))) ea_nil)))))) (hLen rfl))) ⟨rfl, ?_⟩)
  walk_at "nrm"
  refine sdl_seqE [none, some (.p (I w0)), none, none, none, none, none, none] rfl (sd_forS (gv := [6]) (xs := ([[(r1, 0), (r2, Rat.divInt 1 2)], [(r1, 0), (r2, Rat.divInt 1 2), (r3, Rat.divInt 1 3)], [], [(5, Rat.divInt 1 4)], [(2, 0), (2, Rat.divInt 1 2)], [(1, 0), (12, 0)], [(0, 0), (1, 0)]] : List (List Hd)).map hs) (ei_list (EvS.pure (ev_is (ev_cat (xs := ([[(r1, 0), (r2, Rat.divInt 1 2)], [(r1, 0), (r2, Rat.divInt 1 2), (r3, Rat.divInt 1 3)], [], [(5, Rat.divInt 1 4)], [(2, 0), (2, Rat.divInt 1 2)], [(1, 0), (12, 0)]] : List (List Hd)).map hs) (ys := [hs [(0, 0), (1, 0)]]) (ev_var rfl) (lst1 (lst2 (ev_hd2 ev_c (ev_frc fr0)) (ev_hd2 ev_c (ev_frc fr0)))) (hLen rfl)) rfl))) (fun _ => [none, some (.p (I w0)), none, none, none, none, none, none]) (.drop (.keep (.drop (.drop (.drop (.drop (.keep (.keep .nil)))))))) (fun i d hd' => ?_) (Sub.refl _)) (sdl_ret (v := .bl true) ev_c rfl)
  obtain ⟨l, hl', rfl⟩ := getMap hd'
  have okl := okR l hl'
  refine sg_name ?_
  walk_at "nrm"
  have fw : fr (((1 + w0 % 40 : Int) : Int) : Rat) = .tup [I (1 + w0 % 40), I 1] := rfl
  refine sd_forS (gv := [7]) (xs := ([0, ((1 + w0 % 40 : Int) : Rat), Rat.divInt 1 2, Rat.divInt (-1) 3] : List Rat).map fr) (ei_list (EvS.pure (ev_lst (ea_cons (ev_frc fr0) (ea_cons (ev_fr2 fw (by walk_at "ev" <;> exact (by decide : (0 : Int) < 40)) ev_c) (ea_cons (ev_frc half) (ea_cons (ev_fr2 m13 (by walk_at "ev") ev_c) ea_nil)))) (hLen rfl)))) (fun _ => [none, some (.p (I w0)), none, none, none, none, some (.p (hs l)), none]) (Sub.refl _) (fun j d2 hd2 => ?_) (.keep (.keep (.keep (.keep (.keep (.keep (.drop (.keep .nil))))))))
  obtain ⟨t, ht, rfl⟩ := getMap hd2
  have bt : Bd 1000 t := by
    simp only [List.mem_cons, List.not_mem_nil, or_false] at ht
    rcases ht with rfl | rfl | rfl | rfl
    · exact bdS (by decide +kernel)
    · have p128 : (100 : Nat) < 2 ^ 128 := by decide
      exact bdS ⟨by show (1 + w0 % 40 : Int).natAbs < 2 ^ 128; omega, by show 1 < 2 ^ 128; decide⟩
    · exact bdS (by decide +kernel)
    · exact bdS (by decide +kernel)
  refine sg_name ?_
  walk_at "nrm"
  exact sd_if (b := false) (et_is (et_not (a := true) (et_B (ev_call (by walk_at "ev") ⟨okl, bt⟩))) rfl) (fun z => by cases z) (fun _ => sd_next (.keep (.keep (.keep (.keep (.keep (.keep (.keep (.drop .nil)))))))))
theorem all_mk {l : PySem.W.OpenLaw} {w : World} {K : PySem.W.Frag} {h : Heap} {mg : Str → Option Value} {fa CA CT CN XD XB XM XH XO f__law_has_no_time f_is_number f_common f_made f_is_fraction f_plus f_times f_minus f_less f_rest f_is_part f_is_hand f_asked_hands f_asked_time f_asked_hand f_place_of f_places f_later f_turned f_mirrored f_seen_from f_At_init f_Never_init f_gap f_clash f_undone f_brought f_never_of f_times_less f_told f_next_time f_count f_groups f_Always_shows f_At_shows f_Never_shows f__law_number f__law_plain f__law_truths f__law_hands_right f__law_times_promises f__law_kinds_promises f__law_promises_right f_law : Addr} (X : K.In h) (G : h.Ns mainGlobals mg) (hfa : mg "law" = some (.ref fa)) {cO PT : Addr} {ecO : Value} {ddO : Option Addr} {vsO : Array Value} {slO : Array (Option Value)}
    {od__law_has_no_time an__law_has_no_time od_is_number an_is_number od_common an_common od_made an_made od_is_fraction an_is_fraction od_plus an_plus od_times an_times od_minus an_minus od_less an_less od_rest an_rest od_is_part an_is_part od_is_hand an_is_hand od_asked_hands an_asked_hands od_asked_time an_asked_time od_asked_hand an_asked_hand od_place_of an_place_of od_places an_places od_later an_later od_turned an_turned od_mirrored an_mirrored od_seen_from an_seen_from od_At_init an_At_init od_Never_init an_Never_init od_gap an_gap od_clash an_clash od_undone an_undone od_brought an_brought od_never_of an_never_of od_times_less an_times_less od_told an_told od_next_time an_next_time od_count an_count od_groups an_groups od_Always_shows an_Always_shows od_At_shows an_At_shows od_Never_shows an_Never_shows od__law_number an__law_number od__law_plain an__law_plain od__law_truths an__law_truths od__law_hands_right an__law_hands_right od__law_times_promises an__law_times_promises od__law_kinds_promises an__law_kinds_promises od__law_promises_right an__law_promises_right od_law an_law : Option Addr} {sl__law_has_no_time sl_is_number sl_common sl_made sl_is_fraction sl_plus sl_times sl_minus sl_less sl_rest sl_is_part sl_is_hand sl_asked_hands sl_asked_time sl_asked_hand sl_place_of sl_places sl_later sl_turned sl_mirrored sl_seen_from sl_At_init sl_Never_init sl_gap sl_clash sl_undone sl_brought sl_never_of sl_times_less sl_told sl_next_time sl_count sl_groups sl_Always_shows sl_At_shows sl_Never_shows sl__law_number sl__law_plain sl__law_truths sl__law_hands_right sl__law_times_promises sl__law_kinds_promises sl__law_promises_right sl_law : Array (Option Value)} {oc__law_has_no_time kV__law_has_no_time dc__law_has_no_time pm__law_has_no_time cd__law_has_no_time ct__law_has_no_time oc_is_number kV_is_number dc_is_number pm_is_number cd_is_number ct_is_number oc_common kV_common dc_common pm_common cd_common ct_common oc_made kV_made dc_made pm_made cd_made ct_made oc_is_fraction kV_is_fraction dc_is_fraction pm_is_fraction cd_is_fraction ct_is_fraction oc_plus kV_plus dc_plus pm_plus cd_plus ct_plus oc_times kV_times dc_times pm_times cd_times ct_times oc_minus kV_minus dc_minus pm_minus cd_minus ct_minus oc_less kV_less dc_less pm_less cd_less ct_less oc_rest kV_rest dc_rest pm_rest cd_rest ct_rest oc_is_part kV_is_part dc_is_part pm_is_part cd_is_part ct_is_part oc_is_hand kV_is_hand dc_is_hand pm_is_hand cd_is_hand ct_is_hand oc_asked_hands kV_asked_hands dc_asked_hands pm_asked_hands cd_asked_hands ct_asked_hands oc_asked_time kV_asked_time dc_asked_time pm_asked_time cd_asked_time ct_asked_time oc_asked_hand kV_asked_hand dc_asked_hand pm_asked_hand cd_asked_hand ct_asked_hand oc_place_of kV_place_of dc_place_of pm_place_of cd_place_of ct_place_of oc_places kV_places dc_places pm_places cd_places ct_places oc_later kV_later dc_later pm_later cd_later ct_later oc_turned kV_turned dc_turned pm_turned cd_turned ct_turned oc_mirrored kV_mirrored dc_mirrored pm_mirrored cd_mirrored ct_mirrored oc_seen_from kV_seen_from dc_seen_from pm_seen_from cd_seen_from ct_seen_from oc_At_init kV_At_init dc_At_init pm_At_init cd_At_init ct_At_init oc_Never_init kV_Never_init dc_Never_init pm_Never_init cd_Never_init ct_Never_init oc_gap kV_gap dc_gap pm_gap cd_gap ct_gap oc_clash kV_clash dc_clash pm_clash cd_clash ct_clash oc_undone kV_undone dc_undone pm_undone cd_undone ct_undone oc_brought kV_brought dc_brought pm_brought cd_brought ct_brought oc_never_of kV_never_of dc_never_of pm_never_of cd_never_of ct_never_of oc_times_less kV_times_less dc_times_less pm_times_less cd_times_less ct_times_less oc_told kV_told dc_told pm_told cd_told ct_told oc_next_time kV_next_time dc_next_time pm_next_time cd_next_time ct_next_time oc_count kV_count dc_count pm_count cd_count ct_count oc_groups kV_groups dc_groups pm_groups cd_groups ct_groups oc_Always_shows kV_Always_shows dc_Always_shows pm_Always_shows cd_Always_shows ct_Always_shows oc_At_shows kV_At_shows dc_At_shows pm_At_shows cd_At_shows ct_At_shows oc_Never_shows kV_Never_shows dc_Never_shows pm_Never_shows cd_Never_shows ct_Never_shows oc__law_number kV__law_number dc__law_number pm__law_number cd__law_number ct__law_number oc__law_plain kV__law_plain dc__law_plain pm__law_plain cd__law_plain ct__law_plain oc__law_truths kV__law_truths dc__law_truths pm__law_truths cd__law_truths ct__law_truths oc__law_hands_right kV__law_hands_right dc__law_hands_right pm__law_hands_right cd__law_hands_right ct__law_hands_right oc__law_times_promises kV__law_times_promises dc__law_times_promises pm__law_times_promises ct__law_times_promises oc__law_kinds_promises kV__law_kinds_promises dc__law_kinds_promises pm__law_kinds_promises cd__law_kinds_promises ct__law_kinds_promises oc__law_promises_right kV__law_promises_right dc__law_promises_right pm__law_promises_right cd__law_promises_right ct__law_promises_right oc_law kV_law dc_law pm_law cd_law ct_law : Value}
    (z_abs_ : PySem.W.nsIn K mainGlobals "abs" = some none)
    (z_all_ : PySem.W.nsIn K mainGlobals "all" = some none)
    (z_any_ : PySem.W.nsIn K mainGlobals "any" = some none)
    (z_bool_ : PySem.W.nsIn K mainGlobals "bool" = some none)
    (z_enum_ : PySem.W.nsIn K mainGlobals "enumerate" = some none)
    (z_int_ : PySem.W.nsIn K mainGlobals "int" = some none)
    (z_isi_ : PySem.W.nsIn K mainGlobals "isinstance" = some none)
    (z_len_ : PySem.W.nsIn K mainGlobals "len" = some none)
    (z_list_ : PySem.W.nsIn K mainGlobals "list" = some none)
    (z_max_ : PySem.W.nsIn K mainGlobals "max" = some none)
    (z_min_ : PySem.W.nsIn K mainGlobals "min" = some none)
    (z_range_ : PySem.W.nsIn K mainGlobals "range" = some none)
    (z_set_ : PySem.W.nsIn K mainGlobals "set" = some none)
    (z_sorted_ : PySem.W.nsIn K mainGlobals "sorted" = some none)
    (z_str_ : PySem.W.nsIn K mainGlobals "str" = some none)
    (z_sum_ : PySem.W.nsIn K mainGlobals "sum" = some none)
    (z_tuple_ : PySem.W.nsIn K mainGlobals "tuple" = some none)
    (z_zip_ : PySem.W.nsIn K mainGlobals "zip" = some none)
    (z_verr_ : PySem.W.nsIn K mainGlobals "ValueError" = some none)
    (a_Always : PySem.W.nsIn K mainGlobals "Always" = some (some (.ref CA)))
    (pg_Always : PySem.W.plainGet K CA Str.empty = true)
    (hd_Always : PySem.W.hasDictIn K CA = true)
    (po_Always : PySem.W.plainOver K CA = true)
    (sa_Always : PySem.W.findIn K (.ref CA) "__setattr__" = some (some (.builtin "object.__setattr__")))
    (ca_Always : PySem.W.findIn K (.ref CA) "__class__" = some (some (.builtin "object.__class__")))
    (mo_Always : PySem.W.mroIn K CA (.type "object") = some true)
    (mk_Always : PySem.W.makesIn K CA = true)
    (kc_Always : PySem.W.keepIn K (.ref CA) = true)
    (a_At : PySem.W.nsIn K mainGlobals "At" = some (some (.ref CT)))
    (pg_At : PySem.W.plainGet K CT Str.empty = true)
    (hd_At : PySem.W.hasDictIn K CT = true)
    (po_At : PySem.W.plainOver K CT = true)
    (sa_At : PySem.W.findIn K (.ref CT) "__setattr__" = some (some (.builtin "object.__setattr__")))
    (ca_At : PySem.W.findIn K (.ref CT) "__class__" = some (some (.builtin "object.__class__")))
    (mo_At : PySem.W.mroIn K CT (.type "object") = some true)
    (mk_At : PySem.W.makesIn K CT = true)
    (kc_At : PySem.W.keepIn K (.ref CT) = true)
    (a_Never : PySem.W.nsIn K mainGlobals "Never" = some (some (.ref CN)))
    (pg_Never : PySem.W.plainGet K CN Str.empty = true)
    (hd_Never : PySem.W.hasDictIn K CN = true)
    (po_Never : PySem.W.plainOver K CN = true)
    (sa_Never : PySem.W.findIn K (.ref CN) "__setattr__" = some (some (.builtin "object.__setattr__")))
    (ca_Never : PySem.W.findIn K (.ref CN) "__class__" = some (some (.builtin "object.__class__")))
    (mo_Never : PySem.W.mroIn K CN (.type "object") = some true)
    (mk_Never : PySem.W.makesIn K CN = true)
    (kc_Never : PySem.W.keepIn K (.ref CN) = true)
    (sg_get : PySem.W.specialIn K (.builtin "object.__class__") "__get__" = some (some (.builtin "getset_descriptor.__get__")))
    (sg_tk : PySem.W.takesIn K (.builtin "object.__class__") = some true)
    (ia_Always : PySem.W.findIn K (.ref CA) "__init__" = some (some (.builtin "object.__init__")))
    (na_first : PySem.W.findIn K (.ref CT) "first" = some none)
    (na_every : PySem.W.findIn K (.ref CT) "every" = some none)
    (na_some : PySem.W.findIn K (.ref CN) "some" = some none)
    (ki_Always_Always : PySem.W.kitOne K (.ref CA) (.ref CA) = some true)
    (ki_Always_At : PySem.W.kitOne K (.ref CA) (.ref CT) = some false)
    (ki_Always_Never : PySem.W.kitOne K (.ref CA) (.ref CN) = some false)
    (ki_At_Always : PySem.W.kitOne K (.ref CT) (.ref CA) = some false)
    (ki_At_At : PySem.W.kitOne K (.ref CT) (.ref CT) = some true)
    (ki_At_Never : PySem.W.kitOne K (.ref CT) (.ref CN) = some false)
    (ki_Never_Always : PySem.W.kitOne K (.ref CN) (.ref CA) = some false)
    (ki_Never_At : PySem.W.kitOne K (.ref CN) (.ref CT) = some false)
    (ki_Never_Never : PySem.W.kitOne K (.ref CN) (.ref CN) = some true)
    (a_DialError : PySem.W.nsIn K mainGlobals "DialError" = some (some (.ref XD)))
    (xx_DialError : PySem.W.excIn K XD [.type "ValueError", .type "Exception", .type "BaseException", .type "object"] "ValueError.__new__" = true)
    (xk_DialError : PySem.W.keepIn K (.ref XD) = true)
    (xt_DialError : PySem.W.typeIn K (.ref XD) = some (.type "type"))
    (xg_DialError : PySem.W.findIn K (.ref XD) "__getattribute__" = some (some (.builtin "BaseException.__getattribute__")))
    (xh_DialError : PySem.W.findIn K (.ref XD) "__getattr__" = some none)
    (xs_DialError : PySem.W.subIn K (.ref XD) (.type "BaseException") = some true)
    (xd_DialError : PySem.W.hasDictIn K XD = true)
    (xa_DialError : PySem.W.findIn K (.ref XD) "__class__" = some (some (.builtin "object.__class__")))
    (xm_DialError : PySem.W.mroIn K XD (.type "object") = some true)
    (a_BadHands : PySem.W.nsIn K mainGlobals "BadHands" = some (some (.ref XB)))
    (xx_BadHands : PySem.W.excIn K XB [.type "ValueError", .type "Exception", .type "BaseException", .type "object"] "ValueError.__new__" = true)
    (xk_BadHands : PySem.W.keepIn K (.ref XB) = true)
    (xt_BadHands : PySem.W.typeIn K (.ref XB) = some (.type "type"))
    (xg_BadHands : PySem.W.findIn K (.ref XB) "__getattribute__" = some (some (.builtin "BaseException.__getattribute__")))
    (xh_BadHands : PySem.W.findIn K (.ref XB) "__getattr__" = some none)
    (xs_BadHands : PySem.W.subIn K (.ref XB) (.type "BaseException") = some true)
    (xd_BadHands : PySem.W.hasDictIn K XB = true)
    (xa_BadHands : PySem.W.findIn K (.ref XB) "__class__" = some (some (.builtin "object.__class__")))
    (xm_BadHands : PySem.W.mroIn K XB (.type "object") = some true)
    (a_BadTime : PySem.W.nsIn K mainGlobals "BadTime" = some (some (.ref XM)))
    (xx_BadTime : PySem.W.excIn K XM [.type "ValueError", .type "Exception", .type "BaseException", .type "object"] "ValueError.__new__" = true)
    (xk_BadTime : PySem.W.keepIn K (.ref XM) = true)
    (xt_BadTime : PySem.W.typeIn K (.ref XM) = some (.type "type"))
    (xg_BadTime : PySem.W.findIn K (.ref XM) "__getattribute__" = some (some (.builtin "BaseException.__getattribute__")))
    (xh_BadTime : PySem.W.findIn K (.ref XM) "__getattr__" = some none)
    (xs_BadTime : PySem.W.subIn K (.ref XM) (.type "BaseException") = some true)
    (xd_BadTime : PySem.W.hasDictIn K XM = true)
    (xa_BadTime : PySem.W.findIn K (.ref XM) "__class__" = some (some (.builtin "object.__class__")))
    (xm_BadTime : PySem.W.mroIn K XM (.type "object") = some true)
    (a_BadHand : PySem.W.nsIn K mainGlobals "BadHand" = some (some (.ref XH)))
    (xx_BadHand : PySem.W.excIn K XH [.type "ValueError", .type "Exception", .type "BaseException", .type "object"] "ValueError.__new__" = true)
    (xk_BadHand : PySem.W.keepIn K (.ref XH) = true)
    (xt_BadHand : PySem.W.typeIn K (.ref XH) = some (.type "type"))
    (xg_BadHand : PySem.W.findIn K (.ref XH) "__getattribute__" = some (some (.builtin "BaseException.__getattribute__")))
    (xh_BadHand : PySem.W.findIn K (.ref XH) "__getattr__" = some none)
    (xs_BadHand : PySem.W.subIn K (.ref XH) (.type "BaseException") = some true)
    (xd_BadHand : PySem.W.hasDictIn K XH = true)
    (xa_BadHand : PySem.W.findIn K (.ref XH) "__class__" = some (some (.builtin "object.__class__")))
    (xm_BadHand : PySem.W.mroIn K XH (.type "object") = some true)
    (a_NoTime : PySem.W.nsIn K mainGlobals "NoTime" = some (some (.ref XO)))
    (xx_NoTime : PySem.W.excIn K XO [.type "ValueError", .type "Exception", .type "BaseException", .type "object"] "ValueError.__new__" = true)
    (xk_NoTime : PySem.W.keepIn K (.ref XO) = true)
    (xt_NoTime : PySem.W.typeIn K (.ref XO) = some (.type "type"))
    (xg_NoTime : PySem.W.findIn K (.ref XO) "__getattribute__" = some (some (.builtin "BaseException.__getattribute__")))
    (xh_NoTime : PySem.W.findIn K (.ref XO) "__getattr__" = some none)
    (xs_NoTime : PySem.W.subIn K (.ref XO) (.type "BaseException") = some true)
    (xd_NoTime : PySem.W.hasDictIn K XO = true)
    (xa_NoTime : PySem.W.findIn K (.ref XO) "__class__" = some (some (.builtin "object.__class__")))
    (xm_NoTime : PySem.W.mroIn K XO (.type "object") = some true)
    (xu_BadHands : PySem.W.subIn K (.ref XB) (.ref XD) = some true)
    (xu_BadTime : PySem.W.subIn K (.ref XM) (.ref XD) = some true)
    (xu_BadHand : PySem.W.subIn K (.ref XH) (.ref XD) = some true)
    (xu_NoTime : PySem.W.subIn K (.ref XO) (.ref XD) = some true)
    (ki_BadHands_BadHands : PySem.W.kitOne K (.ref XB) (.ref XB) = some true)
    (ki_BadHands_BadTime : PySem.W.kitOne K (.ref XB) (.ref XM) = some false)
    (ki_BadHands_BadHand : PySem.W.kitOne K (.ref XB) (.ref XH) = some false)
    (ki_BadHands_NoTime : PySem.W.kitOne K (.ref XB) (.ref XO) = some false)
    (ki_BadTime_BadHands : PySem.W.kitOne K (.ref XM) (.ref XB) = some false)
    (ki_BadTime_BadTime : PySem.W.kitOne K (.ref XM) (.ref XM) = some true)
    (ki_BadTime_BadHand : PySem.W.kitOne K (.ref XM) (.ref XH) = some false)
    (ki_BadTime_NoTime : PySem.W.kitOne K (.ref XM) (.ref XO) = some false)
    (ki_BadHand_BadHands : PySem.W.kitOne K (.ref XH) (.ref XB) = some false)
    (ki_BadHand_BadTime : PySem.W.kitOne K (.ref XH) (.ref XM) = some false)
    (ki_BadHand_BadHand : PySem.W.kitOne K (.ref XH) (.ref XH) = some true)
    (ki_BadHand_NoTime : PySem.W.kitOne K (.ref XH) (.ref XO) = some false)
    (ki_NoTime_BadHands : PySem.W.kitOne K (.ref XO) (.ref XB) = some false)
    (ki_NoTime_BadTime : PySem.W.kitOne K (.ref XO) (.ref XM) = some false)
    (ki_NoTime_BadHand : PySem.W.kitOne K (.ref XO) (.ref XH) = some false)
    (ki_NoTime_NoTime : PySem.W.kitOne K (.ref XO) (.ref XO) = some true)
    (a__law_has_no_time : PySem.W.nsIn K mainGlobals "_law_has_no_time" = some (some (.ref f__law_has_no_time)))
    (l__law_has_no_time : K.lookup f__law_has_no_time = some ⟨oc__law_has_no_time, od__law_has_no_time, .func (PySem.W.fnOf "_law_has_no_time" "_law_has_no_time" (defArgs s__law_has_no_time) (defBody s__law_has_no_time) (defScope s__law_has_no_time) .none kV__law_has_no_time dc__law_has_no_time pm__law_has_no_time an__law_has_no_time cd__law_has_no_time ct__law_has_no_time), sl__law_has_no_time⟩)
    (e__law_has_no_time : PySem.W.codeIn K cd__law_has_no_time "_law_has_no_time" = true)
    (k__law_has_no_time : PySem.W.keepIn K (.ref f__law_has_no_time) = true)
    (a_is_number : PySem.W.nsIn K mainGlobals "is_number" = some (some (.ref f_is_number)))
    (l_is_number : K.lookup f_is_number = some ⟨oc_is_number, od_is_number, .func (PySem.W.fnOf "is_number" "is_number" (defArgs s_is_number) (defBody s_is_number) (defScope s_is_number) .none kV_is_number dc_is_number pm_is_number an_is_number cd_is_number ct_is_number), sl_is_number⟩)
    (e_is_number : PySem.W.codeIn K cd_is_number "is_number" = true)
    (k_is_number : PySem.W.keepIn K (.ref f_is_number) = true)
    (a_common : PySem.W.nsIn K mainGlobals "common" = some (some (.ref f_common)))
    (l_common : K.lookup f_common = some ⟨oc_common, od_common, .func (PySem.W.fnOf "common" "common" (defArgs s_common) (defBody s_common) (defScope s_common) .none kV_common dc_common pm_common an_common cd_common ct_common), sl_common⟩)
    (e_common : PySem.W.codeIn K cd_common "common" = true)
    (k_common : PySem.W.keepIn K (.ref f_common) = true)
    (a_made : PySem.W.nsIn K mainGlobals "made" = some (some (.ref f_made)))
    (l_made : K.lookup f_made = some ⟨oc_made, od_made, .func (PySem.W.fnOf "made" "made" (defArgs s_made) (defBody s_made) (defScope s_made) .none kV_made dc_made pm_made an_made cd_made ct_made), sl_made⟩)
    (e_made : PySem.W.codeIn K cd_made "made" = true)
    (k_made : PySem.W.keepIn K (.ref f_made) = true)
    (a_is_fraction : PySem.W.nsIn K mainGlobals "is_fraction" = some (some (.ref f_is_fraction)))
    (l_is_fraction : K.lookup f_is_fraction = some ⟨oc_is_fraction, od_is_fraction, .func (PySem.W.fnOf "is_fraction" "is_fraction" (defArgs s_is_fraction) (defBody s_is_fraction) (defScope s_is_fraction) .none kV_is_fraction dc_is_fraction pm_is_fraction an_is_fraction cd_is_fraction ct_is_fraction), sl_is_fraction⟩)
    (e_is_fraction : PySem.W.codeIn K cd_is_fraction "is_fraction" = true)
    (k_is_fraction : PySem.W.keepIn K (.ref f_is_fraction) = true)
    (a_plus : PySem.W.nsIn K mainGlobals "plus" = some (some (.ref f_plus)))
    (l_plus : K.lookup f_plus = some ⟨oc_plus, od_plus, .func (PySem.W.fnOf "plus" "plus" (defArgs s_plus) (defBody s_plus) (defScope s_plus) .none kV_plus dc_plus pm_plus an_plus cd_plus ct_plus), sl_plus⟩)
    (e_plus : PySem.W.codeIn K cd_plus "plus" = true)
    (k_plus : PySem.W.keepIn K (.ref f_plus) = true)
    (a_times : PySem.W.nsIn K mainGlobals "times" = some (some (.ref f_times)))
    (l_times : K.lookup f_times = some ⟨oc_times, od_times, .func (PySem.W.fnOf "times" "times" (defArgs s_times) (defBody s_times) (defScope s_times) .none kV_times dc_times pm_times an_times cd_times ct_times), sl_times⟩)
    (e_times : PySem.W.codeIn K cd_times "times" = true)
    (k_times : PySem.W.keepIn K (.ref f_times) = true)
    (a_minus : PySem.W.nsIn K mainGlobals "minus" = some (some (.ref f_minus)))
    (l_minus : K.lookup f_minus = some ⟨oc_minus, od_minus, .func (PySem.W.fnOf "minus" "minus" (defArgs s_minus) (defBody s_minus) (defScope s_minus) .none kV_minus dc_minus pm_minus an_minus cd_minus ct_minus), sl_minus⟩)
    (e_minus : PySem.W.codeIn K cd_minus "minus" = true)
    (k_minus : PySem.W.keepIn K (.ref f_minus) = true)
    (a_less : PySem.W.nsIn K mainGlobals "less" = some (some (.ref f_less)))
    (l_less : K.lookup f_less = some ⟨oc_less, od_less, .func (PySem.W.fnOf "less" "less" (defArgs s_less) (defBody s_less) (defScope s_less) .none kV_less dc_less pm_less an_less cd_less ct_less), sl_less⟩)
    (e_less : PySem.W.codeIn K cd_less "less" = true)
    (k_less : PySem.W.keepIn K (.ref f_less) = true)
    (a_rest : PySem.W.nsIn K mainGlobals "rest" = some (some (.ref f_rest)))
    (l_rest : K.lookup f_rest = some ⟨oc_rest, od_rest, .func (PySem.W.fnOf "rest" "rest" (defArgs s_rest) (defBody s_rest) (defScope s_rest) .none kV_rest dc_rest pm_rest an_rest cd_rest ct_rest), sl_rest⟩)
    (e_rest : PySem.W.codeIn K cd_rest "rest" = true)
    (k_rest : PySem.W.keepIn K (.ref f_rest) = true)
    (a_is_part : PySem.W.nsIn K mainGlobals "is_part" = some (some (.ref f_is_part)))
    (l_is_part : K.lookup f_is_part = some ⟨oc_is_part, od_is_part, .func (PySem.W.fnOf "is_part" "is_part" (defArgs s_is_part) (defBody s_is_part) (defScope s_is_part) .none kV_is_part dc_is_part pm_is_part an_is_part cd_is_part ct_is_part), sl_is_part⟩)
    (e_is_part : PySem.W.codeIn K cd_is_part "is_part" = true)
    (k_is_part : PySem.W.keepIn K (.ref f_is_part) = true)
    (a_is_hand : PySem.W.nsIn K mainGlobals "is_hand" = some (some (.ref f_is_hand)))
    (l_is_hand : K.lookup f_is_hand = some ⟨oc_is_hand, od_is_hand, .func (PySem.W.fnOf "is_hand" "is_hand" (defArgs s_is_hand) (defBody s_is_hand) (defScope s_is_hand) .none kV_is_hand dc_is_hand pm_is_hand an_is_hand cd_is_hand ct_is_hand), sl_is_hand⟩)
    (e_is_hand : PySem.W.codeIn K cd_is_hand "is_hand" = true)
    (k_is_hand : PySem.W.keepIn K (.ref f_is_hand) = true)
    (a_asked_hands : PySem.W.nsIn K mainGlobals "asked_hands" = some (some (.ref f_asked_hands)))
    (l_asked_hands : K.lookup f_asked_hands = some ⟨oc_asked_hands, od_asked_hands, .func (PySem.W.fnOf "asked_hands" "asked_hands" (defArgs s_asked_hands) (defBody s_asked_hands) (defScope s_asked_hands) .none kV_asked_hands dc_asked_hands pm_asked_hands an_asked_hands cd_asked_hands ct_asked_hands), sl_asked_hands⟩)
    (e_asked_hands : PySem.W.codeIn K cd_asked_hands "asked_hands" = true)
    (k_asked_hands : PySem.W.keepIn K (.ref f_asked_hands) = true)
    (a_asked_time : PySem.W.nsIn K mainGlobals "asked_time" = some (some (.ref f_asked_time)))
    (l_asked_time : K.lookup f_asked_time = some ⟨oc_asked_time, od_asked_time, .func (PySem.W.fnOf "asked_time" "asked_time" (defArgs s_asked_time) (defBody s_asked_time) (defScope s_asked_time) .none kV_asked_time dc_asked_time pm_asked_time an_asked_time cd_asked_time ct_asked_time), sl_asked_time⟩)
    (e_asked_time : PySem.W.codeIn K cd_asked_time "asked_time" = true)
    (k_asked_time : PySem.W.keepIn K (.ref f_asked_time) = true)
    (a_asked_hand : PySem.W.nsIn K mainGlobals "asked_hand" = some (some (.ref f_asked_hand)))
    (l_asked_hand : K.lookup f_asked_hand = some ⟨oc_asked_hand, od_asked_hand, .func (PySem.W.fnOf "asked_hand" "asked_hand" (defArgs s_asked_hand) (defBody s_asked_hand) (defScope s_asked_hand) .none kV_asked_hand dc_asked_hand pm_asked_hand an_asked_hand cd_asked_hand ct_asked_hand), sl_asked_hand⟩)
    (e_asked_hand : PySem.W.codeIn K cd_asked_hand "asked_hand" = true)
    (k_asked_hand : PySem.W.keepIn K (.ref f_asked_hand) = true)
    (a_place_of : PySem.W.nsIn K mainGlobals "place_of" = some (some (.ref f_place_of)))
    (l_place_of : K.lookup f_place_of = some ⟨oc_place_of, od_place_of, .func (PySem.W.fnOf "place_of" "place_of" (defArgs s_place_of) (defBody s_place_of) (defScope s_place_of) .none kV_place_of dc_place_of pm_place_of an_place_of cd_place_of ct_place_of), sl_place_of⟩)
    (e_place_of : PySem.W.codeIn K cd_place_of "place_of" = true)
    (k_place_of : PySem.W.keepIn K (.ref f_place_of) = true)
    (a_places : PySem.W.nsIn K mainGlobals "places" = some (some (.ref f_places)))
    (l_places : K.lookup f_places = some ⟨oc_places, od_places, .func (PySem.W.fnOf "places" "places" (defArgs s_places) (defBody s_places) (defScope s_places) .none kV_places dc_places pm_places an_places cd_places ct_places), sl_places⟩)
    (e_places : PySem.W.codeIn K cd_places "places" = true)
    (k_places : PySem.W.keepIn K (.ref f_places) = true)
    (a_later : PySem.W.nsIn K mainGlobals "later" = some (some (.ref f_later)))
    (l_later : K.lookup f_later = some ⟨oc_later, od_later, .func (PySem.W.fnOf "later" "later" (defArgs s_later) (defBody s_later) (defScope s_later) .none kV_later dc_later pm_later an_later cd_later ct_later), sl_later⟩)
    (e_later : PySem.W.codeIn K cd_later "later" = true)
    (k_later : PySem.W.keepIn K (.ref f_later) = true)
    (a_turned : PySem.W.nsIn K mainGlobals "turned" = some (some (.ref f_turned)))
    (l_turned : K.lookup f_turned = some ⟨oc_turned, od_turned, .func (PySem.W.fnOf "turned" "turned" (defArgs s_turned) (defBody s_turned) (defScope s_turned) .none kV_turned dc_turned pm_turned an_turned cd_turned ct_turned), sl_turned⟩)
    (e_turned : PySem.W.codeIn K cd_turned "turned" = true)
    (k_turned : PySem.W.keepIn K (.ref f_turned) = true)
    (a_mirrored : PySem.W.nsIn K mainGlobals "mirrored" = some (some (.ref f_mirrored)))
    (l_mirrored : K.lookup f_mirrored = some ⟨oc_mirrored, od_mirrored, .func (PySem.W.fnOf "mirrored" "mirrored" (defArgs s_mirrored) (defBody s_mirrored) (defScope s_mirrored) .none kV_mirrored dc_mirrored pm_mirrored an_mirrored cd_mirrored ct_mirrored), sl_mirrored⟩)
    (e_mirrored : PySem.W.codeIn K cd_mirrored "mirrored" = true)
    (k_mirrored : PySem.W.keepIn K (.ref f_mirrored) = true)
    (a_seen_from : PySem.W.nsIn K mainGlobals "seen_from" = some (some (.ref f_seen_from)))
    (l_seen_from : K.lookup f_seen_from = some ⟨oc_seen_from, od_seen_from, .func (PySem.W.fnOf "seen_from" "seen_from" (defArgs s_seen_from) (defBody s_seen_from) (defScope s_seen_from) .none kV_seen_from dc_seen_from pm_seen_from an_seen_from cd_seen_from ct_seen_from), sl_seen_from⟩)
    (e_seen_from : PySem.W.codeIn K cd_seen_from "seen_from" = true)
    (k_seen_from : PySem.W.keepIn K (.ref f_seen_from) = true)
    (a_At_init : PySem.W.findIn K (.ref CT) "__init__" = some (some (.ref f_At_init)))
    (i_At_init : PySem.W.isFn K (.ref f_At_init) = true)
    (l_At_init : K.lookup f_At_init = some ⟨oc_At_init, od_At_init, .func (PySem.W.fnOf "__init__" "At.__init__" (defArgs s_At_init) (defBody s_At_init) (defScope s_At_init) .none kV_At_init dc_At_init pm_At_init an_At_init cd_At_init ct_At_init), sl_At_init⟩)
    (e_At_init : PySem.W.codeIn K cd_At_init "At.__init__" = true)
    (k_At_init : PySem.W.keepIn K (.ref f_At_init) = true)
    (a_Never_init : PySem.W.findIn K (.ref CN) "__init__" = some (some (.ref f_Never_init)))
    (i_Never_init : PySem.W.isFn K (.ref f_Never_init) = true)
    (l_Never_init : K.lookup f_Never_init = some ⟨oc_Never_init, od_Never_init, .func (PySem.W.fnOf "__init__" "Never.__init__" (defArgs s_Never_init) (defBody s_Never_init) (defScope s_Never_init) .none kV_Never_init dc_Never_init pm_Never_init an_Never_init cd_Never_init ct_Never_init), sl_Never_init⟩)
    (e_Never_init : PySem.W.codeIn K cd_Never_init "Never.__init__" = true)
    (k_Never_init : PySem.W.keepIn K (.ref f_Never_init) = true)
    (a_gap : PySem.W.nsIn K mainGlobals "gap" = some (some (.ref f_gap)))
    (l_gap : K.lookup f_gap = some ⟨oc_gap, od_gap, .func (PySem.W.fnOf "gap" "gap" (defArgs s_gap) (defBody s_gap) (defScope s_gap) .none kV_gap dc_gap pm_gap an_gap cd_gap ct_gap), sl_gap⟩)
    (e_gap : PySem.W.codeIn K cd_gap "gap" = true)
    (k_gap : PySem.W.keepIn K (.ref f_gap) = true)
    (a_clash : PySem.W.nsIn K mainGlobals "clash" = some (some (.ref f_clash)))
    (l_clash : K.lookup f_clash = some ⟨oc_clash, od_clash, .func (PySem.W.fnOf "clash" "clash" (defArgs s_clash) (defBody s_clash) (defScope s_clash) .none kV_clash dc_clash pm_clash an_clash cd_clash ct_clash), sl_clash⟩)
    (e_clash : PySem.W.codeIn K cd_clash "clash" = true)
    (k_clash : PySem.W.keepIn K (.ref f_clash) = true)
    (a_undone : PySem.W.nsIn K mainGlobals "undone" = some (some (.ref f_undone)))
    (l_undone : K.lookup f_undone = some ⟨oc_undone, od_undone, .func (PySem.W.fnOf "undone" "undone" (defArgs s_undone) (defBody s_undone) (defScope s_undone) .none kV_undone dc_undone pm_undone an_undone cd_undone ct_undone), sl_undone⟩)
    (e_undone : PySem.W.codeIn K cd_undone "undone" = true)
    (k_undone : PySem.W.keepIn K (.ref f_undone) = true)
    (a_brought : PySem.W.nsIn K mainGlobals "brought" = some (some (.ref f_brought)))
    (l_brought : K.lookup f_brought = some ⟨oc_brought, od_brought, .func (PySem.W.fnOf "brought" "brought" (defArgs s_brought) (defBody s_brought) (defScope s_brought) .none kV_brought dc_brought pm_brought an_brought cd_brought ct_brought), sl_brought⟩)
    (e_brought : PySem.W.codeIn K cd_brought "brought" = true)
    (k_brought : PySem.W.keepIn K (.ref f_brought) = true)
    (a_never_of : PySem.W.nsIn K mainGlobals "never_of" = some (some (.ref f_never_of)))
    (l_never_of : K.lookup f_never_of = some ⟨oc_never_of, od_never_of, .func (PySem.W.fnOf "never_of" "never_of" (defArgs s_never_of) (defBody s_never_of) (defScope s_never_of) .none kV_never_of dc_never_of pm_never_of an_never_of cd_never_of ct_never_of), sl_never_of⟩)
    (e_never_of : PySem.W.codeIn K cd_never_of "never_of" = true)
    (k_never_of : PySem.W.keepIn K (.ref f_never_of) = true)
    (a_times_less : PySem.W.nsIn K mainGlobals "times_less" = some (some (.ref f_times_less)))
    (l_times_less : K.lookup f_times_less = some ⟨oc_times_less, od_times_less, .func (PySem.W.fnOf "times_less" "times_less" (defArgs s_times_less) (defBody s_times_less) (defScope s_times_less) .none kV_times_less dc_times_less pm_times_less an_times_less cd_times_less ct_times_less), sl_times_less⟩)
    (e_times_less : PySem.W.codeIn K cd_times_less "times_less" = true)
    (k_times_less : PySem.W.keepIn K (.ref f_times_less) = true)
    (a_told : PySem.W.nsIn K mainGlobals "told" = some (some (.ref f_told)))
    (l_told : K.lookup f_told = some ⟨oc_told, od_told, .func (PySem.W.fnOf "told" "told" (defArgs s_told) (defBody s_told) (defScope s_told) .none kV_told dc_told pm_told an_told cd_told ct_told), sl_told⟩)
    (e_told : PySem.W.codeIn K cd_told "told" = true)
    (k_told : PySem.W.keepIn K (.ref f_told) = true)
    (a_next_time : PySem.W.nsIn K mainGlobals "next_time" = some (some (.ref f_next_time)))
    (l_next_time : K.lookup f_next_time = some ⟨oc_next_time, od_next_time, .func (PySem.W.fnOf "next_time" "next_time" (defArgs s_next_time) (defBody s_next_time) (defScope s_next_time) .none kV_next_time dc_next_time pm_next_time an_next_time cd_next_time ct_next_time), sl_next_time⟩)
    (e_next_time : PySem.W.codeIn K cd_next_time "next_time" = true)
    (k_next_time : PySem.W.keepIn K (.ref f_next_time) = true)
    (a_count : PySem.W.nsIn K mainGlobals "count" = some (some (.ref f_count)))
    (l_count : K.lookup f_count = some ⟨oc_count, od_count, .func (PySem.W.fnOf "count" "count" (defArgs s_count) (defBody s_count) (defScope s_count) .none kV_count dc_count pm_count an_count cd_count ct_count), sl_count⟩)
    (e_count : PySem.W.codeIn K cd_count "count" = true)
    (k_count : PySem.W.keepIn K (.ref f_count) = true)
    (a_groups : PySem.W.nsIn K mainGlobals "groups" = some (some (.ref f_groups)))
    (l_groups : K.lookup f_groups = some ⟨oc_groups, od_groups, .func (PySem.W.fnOf "groups" "groups" (defArgs s_groups) (defBody s_groups) (defScope s_groups) .none kV_groups dc_groups pm_groups an_groups cd_groups ct_groups), sl_groups⟩)
    (e_groups : PySem.W.codeIn K cd_groups "groups" = true)
    (k_groups : PySem.W.keepIn K (.ref f_groups) = true)
    (a_Always_shows : PySem.W.findIn K (.ref CA) "shows" = some (some (.ref f_Always_shows)))
    (i_Always_shows : PySem.W.isFn K (.ref f_Always_shows) = true)
    (l_Always_shows : K.lookup f_Always_shows = some ⟨oc_Always_shows, od_Always_shows, .func (PySem.W.fnOf "shows" "Always.shows" (defArgs s_Always_shows) (defBody s_Always_shows) (defScope s_Always_shows) .none kV_Always_shows dc_Always_shows pm_Always_shows an_Always_shows cd_Always_shows ct_Always_shows), sl_Always_shows⟩)
    (e_Always_shows : PySem.W.codeIn K cd_Always_shows "Always.shows" = true)
    (k_Always_shows : PySem.W.keepIn K (.ref f_Always_shows) = true)
    (a_At_shows : PySem.W.findIn K (.ref CT) "shows" = some (some (.ref f_At_shows)))
    (i_At_shows : PySem.W.isFn K (.ref f_At_shows) = true)
    (l_At_shows : K.lookup f_At_shows = some ⟨oc_At_shows, od_At_shows, .func (PySem.W.fnOf "shows" "At.shows" (defArgs s_At_shows) (defBody s_At_shows) (defScope s_At_shows) .none kV_At_shows dc_At_shows pm_At_shows an_At_shows cd_At_shows ct_At_shows), sl_At_shows⟩)
    (e_At_shows : PySem.W.codeIn K cd_At_shows "At.shows" = true)
    (k_At_shows : PySem.W.keepIn K (.ref f_At_shows) = true)
    (a_Never_shows : PySem.W.findIn K (.ref CN) "shows" = some (some (.ref f_Never_shows)))
    (i_Never_shows : PySem.W.isFn K (.ref f_Never_shows) = true)
    (l_Never_shows : K.lookup f_Never_shows = some ⟨oc_Never_shows, od_Never_shows, .func (PySem.W.fnOf "shows" "Never.shows" (defArgs s_Never_shows) (defBody s_Never_shows) (defScope s_Never_shows) .none kV_Never_shows dc_Never_shows pm_Never_shows an_Never_shows cd_Never_shows ct_Never_shows), sl_Never_shows⟩)
    (e_Never_shows : PySem.W.codeIn K cd_Never_shows "Never.shows" = true)
    (k_Never_shows : PySem.W.keepIn K (.ref f_Never_shows) = true)
    (a__law_number : PySem.W.nsIn K mainGlobals "_law_number" = some (some (.ref f__law_number)))
    (l__law_number : K.lookup f__law_number = some ⟨oc__law_number, od__law_number, .func (PySem.W.fnOf "_law_number" "_law_number" (defArgs s__law_number) (defBody s__law_number) (defScope s__law_number) .none kV__law_number dc__law_number pm__law_number an__law_number cd__law_number ct__law_number), sl__law_number⟩)
    (e__law_number : PySem.W.codeIn K cd__law_number "_law_number" = true)
    (k__law_number : PySem.W.keepIn K (.ref f__law_number) = true)
    (a__law_plain : PySem.W.nsIn K mainGlobals "_law_plain" = some (some (.ref f__law_plain)))
    (l__law_plain : K.lookup f__law_plain = some ⟨oc__law_plain, od__law_plain, .func (PySem.W.fnOf "_law_plain" "_law_plain" (defArgs s__law_plain) (defBody s__law_plain) (defScope s__law_plain) .none kV__law_plain dc__law_plain pm__law_plain an__law_plain cd__law_plain ct__law_plain), sl__law_plain⟩)
    (e__law_plain : PySem.W.codeIn K cd__law_plain "_law_plain" = true)
    (k__law_plain : PySem.W.keepIn K (.ref f__law_plain) = true)
    (a__law_truths : PySem.W.nsIn K mainGlobals "_law_truths" = some (some (.ref f__law_truths)))
    (l__law_truths : K.lookup f__law_truths = some ⟨oc__law_truths, od__law_truths, .func (PySem.W.fnOf "_law_truths" "_law_truths" (defArgs s__law_truths) (defBody s__law_truths) (defScope s__law_truths) .none kV__law_truths dc__law_truths pm__law_truths an__law_truths cd__law_truths ct__law_truths), sl__law_truths⟩)
    (e__law_truths : PySem.W.codeIn K cd__law_truths "_law_truths" = true)
    (k__law_truths : PySem.W.keepIn K (.ref f__law_truths) = true)
    (a__law_hands_right : PySem.W.nsIn K mainGlobals "_law_hands_right" = some (some (.ref f__law_hands_right)))
    (l__law_hands_right : K.lookup f__law_hands_right = some ⟨oc__law_hands_right, od__law_hands_right, .func (PySem.W.fnOf "_law_hands_right" "_law_hands_right" (defArgs s__law_hands_right) (defBody s__law_hands_right) (defScope s__law_hands_right) .none kV__law_hands_right dc__law_hands_right pm__law_hands_right an__law_hands_right cd__law_hands_right ct__law_hands_right), sl__law_hands_right⟩)
    (e__law_hands_right : PySem.W.codeIn K cd__law_hands_right "_law_hands_right" = true)
    (k__law_hands_right : PySem.W.keepIn K (.ref f__law_hands_right) = true)
    (a__law_times_promises : PySem.W.nsIn K mainGlobals "_law_times_promises" = some (some (.ref f__law_times_promises)))
    (l__law_times_promises : K.lookup f__law_times_promises = some ⟨oc__law_times_promises, od__law_times_promises, .func (PySem.W.fnOf "_law_times_promises" "_law_times_promises" (defArgs s__law_times_promises) (defBody s__law_times_promises) (defScope s__law_times_promises) .none kV__law_times_promises dc__law_times_promises pm__law_times_promises an__law_times_promises (.ref cO) ct__law_times_promises), sl__law_times_promises⟩)
    (e__law_times_promises : PySem.W.codeIn K (.ref cO) "_law_times_promises" = true)
    (k__law_times_promises : PySem.W.keepIn K (.ref f__law_times_promises) = true)
    (kc_O : K.lookup cO = some ⟨ecO, ddO, .fields vsO, slO⟩)
    (k11_O : vsO[11]? = some (.ref PT))
    (kn_O : K.lookup PT = none)
    (a__law_kinds_promises : PySem.W.nsIn K mainGlobals "_law_kinds_promises" = some (some (.ref f__law_kinds_promises)))
    (l__law_kinds_promises : K.lookup f__law_kinds_promises = some ⟨oc__law_kinds_promises, od__law_kinds_promises, .func (PySem.W.fnOf "_law_kinds_promises" "_law_kinds_promises" (defArgs s__law_kinds_promises) (defBody s__law_kinds_promises) (defScope s__law_kinds_promises) .none kV__law_kinds_promises dc__law_kinds_promises pm__law_kinds_promises an__law_kinds_promises cd__law_kinds_promises ct__law_kinds_promises), sl__law_kinds_promises⟩)
    (e__law_kinds_promises : PySem.W.codeIn K cd__law_kinds_promises "_law_kinds_promises" = true)
    (k__law_kinds_promises : PySem.W.keepIn K (.ref f__law_kinds_promises) = true)
    (a__law_promises_right : PySem.W.nsIn K mainGlobals "_law_promises_right" = some (some (.ref f__law_promises_right)))
    (l__law_promises_right : K.lookup f__law_promises_right = some ⟨oc__law_promises_right, od__law_promises_right, .func (PySem.W.fnOf "_law_promises_right" "_law_promises_right" (defArgs s__law_promises_right) (defBody s__law_promises_right) (defScope s__law_promises_right) .none kV__law_promises_right dc__law_promises_right pm__law_promises_right an__law_promises_right cd__law_promises_right ct__law_promises_right), sl__law_promises_right⟩)
    (e__law_promises_right : PySem.W.codeIn K cd__law_promises_right "_law_promises_right" = true)
    (k__law_promises_right : PySem.W.keepIn K (.ref f__law_promises_right) = true)
    (a_law : PySem.W.nsIn K mainGlobals "law" = some (some (.ref f_law)))
    (l_law : K.lookup f_law = some ⟨oc_law, od_law, .func (PySem.W.fnOf "law" "law" (defArgs s_law) (defBody s_law) (defScope s_law) .none kV_law dc_law pm_law an_law cd_law ct_law), sl_law⟩)
    (e_law : PySem.W.codeIn K cd_law "law" = true)
    (k_law : PySem.W.keepIn K (.ref f_law) = true) :
    ∃ (fd : FuncData) (c P fo : Addr) (o : Obj) (fd2 : FuncData) (e : Value) (dd : Option Addr) (vs : Array Value) (sl : Array (Option Value)), mg "_law_times_promises" = some (.ref fo) ∧ K.lookup fo = some o ∧ o.data = .func fd2 ∧ fd2.code = .ref c ∧ K.lookup c = some ⟨e, dd, .fields vs, sl⟩ ∧ vs[11]? = some (.ref P) ∧ K.lookup P = none ∧
      (∀ (s : Shared) (v : Value), BindsTo s fd ⟨[v], []⟩ [("_law_script", v)]) ∧ ∀ base : Heap, K.In base → base.Ns mainGlobals mg → LamX.TabB base mg c P → FnOk l.prog w K mg base CX0 14 fa fd ["_law_script"] (spT K (tT P) PScriptL) := by
  have e := hfa.symm.trans (PySem.W.mg_of X G a_law)
  cases e
  have b : Bl mg := ⟨PySem.W.mg_none_of X G z_abs_, PySem.W.mg_none_of X G z_all_, PySem.W.mg_none_of X G z_any_, PySem.W.mg_none_of X G z_bool_, PySem.W.mg_none_of X G z_enum_, PySem.W.mg_none_of X G z_int_, PySem.W.mg_none_of X G z_isi_, PySem.W.mg_none_of X G z_len_, PySem.W.mg_none_of X G z_list_, PySem.W.mg_none_of X G z_max_, PySem.W.mg_none_of X G z_min_, PySem.W.mg_none_of X G z_range_, PySem.W.mg_none_of X G z_set_, PySem.W.mg_none_of X G z_sorted_, PySem.W.mg_none_of X G z_str_, PySem.W.mg_none_of X G z_sum_, PySem.W.mg_none_of X G z_tuple_, PySem.W.mg_none_of X G z_zip_, PySem.W.mg_none_of X G z_verr_⟩
  have T : Txt K mg CA CT CN := ⟨⟨PySem.W.mg_of X G a_Always, ⟨⟨pg_Always, hd_Always, po_Always, sa_Always⟩, ca_Always, sg_get, sg_tk, mo_Always⟩, mk_Always, kc_Always⟩, ⟨PySem.W.mg_of X G a_At, ⟨⟨pg_At, hd_At, po_At, sa_At⟩, ca_At, sg_get, sg_tk, mo_At⟩, mk_At, kc_At⟩, ⟨PySem.W.mg_of X G a_Never, ⟨⟨pg_Never, hd_Never, po_Never, sa_Never⟩, ca_Never, sg_get, sg_tk, mo_Never⟩, mk_Never, kc_Never⟩, ia_Always, na_first, na_every, na_some, ki_Always_Always, ki_Always_At, ki_Always_Never, ki_At_Always, ki_At_At, ki_At_Never, ki_Never_Always, ki_Never_At, ki_Never_Never⟩
  have TX : TxtX K mg XD XB XM XH XO := ⟨⟨PySem.W.mg_of X G a_DialError, xx_DialError, xk_DialError, xt_DialError, ⟨xg_DialError, xh_DialError, xs_DialError, xd_DialError, xa_DialError, sg_get, sg_tk, xm_DialError⟩⟩, ⟨PySem.W.mg_of X G a_BadHands, xx_BadHands, xk_BadHands, xt_BadHands, ⟨xg_BadHands, xh_BadHands, xs_BadHands, xd_BadHands, xa_BadHands, sg_get, sg_tk, xm_BadHands⟩⟩, ⟨PySem.W.mg_of X G a_BadTime, xx_BadTime, xk_BadTime, xt_BadTime, ⟨xg_BadTime, xh_BadTime, xs_BadTime, xd_BadTime, xa_BadTime, sg_get, sg_tk, xm_BadTime⟩⟩, ⟨PySem.W.mg_of X G a_BadHand, xx_BadHand, xk_BadHand, xt_BadHand, ⟨xg_BadHand, xh_BadHand, xs_BadHand, xd_BadHand, xa_BadHand, sg_get, sg_tk, xm_BadHand⟩⟩, ⟨PySem.W.mg_of X G a_NoTime, xx_NoTime, xk_NoTime, xt_NoTime, ⟨xg_NoTime, xh_NoTime, xs_NoTime, xd_NoTime, xa_NoTime, sg_get, sg_tk, xm_NoTime⟩⟩, xu_BadHands, xu_BadTime, xu_BadHand, xu_NoTime, ki_BadHands_BadHands, ki_BadHands_BadTime, ki_BadHands_BadHand, ki_BadHands_NoTime, ki_BadTime_BadHands, ki_BadTime_BadTime, ki_BadTime_BadHand, ki_BadTime_NoTime, ki_BadHand_BadHands, ki_BadHand_BadTime, ki_BadHand_BadHand, ki_BadHand_NoTime, ki_NoTime_BadHands, ki_NoTime_BadTime, ki_NoTime_BadHand, ki_NoTime_NoTime⟩
  have FN : FunAt K mg "_law_has_no_time" s__law_has_no_time := ⟨_, _, fun_mk (st := s__law_has_no_time) l__law_has_no_time e__law_has_no_time k__law_has_no_time, PySem.W.mg_of X G a__law_has_no_time⟩
  have F_is_number : FunAt K mg "is_number" s_is_number := ⟨_, _, fun_mk (st := s_is_number) l_is_number e_is_number k_is_number, PySem.W.mg_of X G a_is_number⟩
  have F_common : FunAt K mg "common" s_common := ⟨_, _, fun_mk (st := s_common) l_common e_common k_common, PySem.W.mg_of X G a_common⟩
  have F_made : FunAt K mg "made" s_made := ⟨_, _, fun_mk (st := s_made) l_made e_made k_made, PySem.W.mg_of X G a_made⟩
  have F_is_fraction : FunAt K mg "is_fraction" s_is_fraction := ⟨_, _, fun_mk (st := s_is_fraction) l_is_fraction e_is_fraction k_is_fraction, PySem.W.mg_of X G a_is_fraction⟩
  have F_plus : FunAt K mg "plus" s_plus := ⟨_, _, fun_mk (st := s_plus) l_plus e_plus k_plus, PySem.W.mg_of X G a_plus⟩
  have F_times : FunAt K mg "times" s_times := ⟨_, _, fun_mk (st := s_times) l_times e_times k_times, PySem.W.mg_of X G a_times⟩
  have F_minus : FunAt K mg "minus" s_minus := ⟨_, _, fun_mk (st := s_minus) l_minus e_minus k_minus, PySem.W.mg_of X G a_minus⟩
  have F_less : FunAt K mg "less" s_less := ⟨_, _, fun_mk (st := s_less) l_less e_less k_less, PySem.W.mg_of X G a_less⟩
  have F_rest : FunAt K mg "rest" s_rest := ⟨_, _, fun_mk (st := s_rest) l_rest e_rest k_rest, PySem.W.mg_of X G a_rest⟩
  have F_is_part : FunAt K mg "is_part" s_is_part := ⟨_, _, fun_mk (st := s_is_part) l_is_part e_is_part k_is_part, PySem.W.mg_of X G a_is_part⟩
  have F_is_hand : FunAt K mg "is_hand" s_is_hand := ⟨_, _, fun_mk (st := s_is_hand) l_is_hand e_is_hand k_is_hand, PySem.W.mg_of X G a_is_hand⟩
  have F_asked_hands : FunAt K mg "asked_hands" s_asked_hands := ⟨_, _, fun_mk (st := s_asked_hands) l_asked_hands e_asked_hands k_asked_hands, PySem.W.mg_of X G a_asked_hands⟩
  have F_asked_time : FunAt K mg "asked_time" s_asked_time := ⟨_, _, fun_mk (st := s_asked_time) l_asked_time e_asked_time k_asked_time, PySem.W.mg_of X G a_asked_time⟩
  have F_asked_hand : FunAt K mg "asked_hand" s_asked_hand := ⟨_, _, fun_mk (st := s_asked_hand) l_asked_hand e_asked_hand k_asked_hand, PySem.W.mg_of X G a_asked_hand⟩
  have F_place_of : FunAt K mg "place_of" s_place_of := ⟨_, _, fun_mk (st := s_place_of) l_place_of e_place_of k_place_of, PySem.W.mg_of X G a_place_of⟩
  have F_places : FunAt K mg "places" s_places := ⟨_, _, fun_mk (st := s_places) l_places e_places k_places, PySem.W.mg_of X G a_places⟩
  have F_later : FunAt K mg "later" s_later := ⟨_, _, fun_mk (st := s_later) l_later e_later k_later, PySem.W.mg_of X G a_later⟩
  have F_turned : FunAt K mg "turned" s_turned := ⟨_, _, fun_mk (st := s_turned) l_turned e_turned k_turned, PySem.W.mg_of X G a_turned⟩
  have F_mirrored : FunAt K mg "mirrored" s_mirrored := ⟨_, _, fun_mk (st := s_mirrored) l_mirrored e_mirrored k_mirrored, PySem.W.mg_of X G a_mirrored⟩
  have F_seen_from : FunAt K mg "seen_from" s_seen_from := ⟨_, _, fun_mk (st := s_seen_from) l_seen_from e_seen_from k_seen_from, PySem.W.mg_of X G a_seen_from⟩
  have F_At_init : InitAt K CT "At.__init__" s_At_init := ⟨_, _, fun_mk (st := s_At_init) l_At_init e_At_init k_At_init, ⟨mk_At, a_At_init, i_At_init, kc_At⟩⟩
  have F_Never_init : InitAt K CN "Never.__init__" s_Never_init := ⟨_, _, fun_mk (st := s_Never_init) l_Never_init e_Never_init k_Never_init, ⟨mk_Never, a_Never_init, i_Never_init, kc_Never⟩⟩
  have F_gap : FunAt K mg "gap" s_gap := ⟨_, _, fun_mk (st := s_gap) l_gap e_gap k_gap, PySem.W.mg_of X G a_gap⟩
  have F_clash : FunAt K mg "clash" s_clash := ⟨_, _, fun_mk (st := s_clash) l_clash e_clash k_clash, PySem.W.mg_of X G a_clash⟩
  have F_undone : FunAt K mg "undone" s_undone := ⟨_, _, fun_mk (st := s_undone) l_undone e_undone k_undone, PySem.W.mg_of X G a_undone⟩
  have F_brought : FunAt K mg "brought" s_brought := ⟨_, _, fun_mk (st := s_brought) l_brought e_brought k_brought, PySem.W.mg_of X G a_brought⟩
  have F_never_of : FunAt K mg "never_of" s_never_of := ⟨_, _, fun_mk (st := s_never_of) l_never_of e_never_of k_never_of, PySem.W.mg_of X G a_never_of⟩
  have F_times_less : FunAt K mg "times_less" s_times_less := ⟨_, _, fun_mk (st := s_times_less) l_times_less e_times_less k_times_less, PySem.W.mg_of X G a_times_less⟩
  have F_told : FunAt K mg "told" s_told := ⟨_, _, fun_mk (st := s_told) l_told e_told k_told, PySem.W.mg_of X G a_told⟩
  have F_next_time : FunAt K mg "next_time" s_next_time := ⟨_, _, fun_mk (st := s_next_time) l_next_time e_next_time k_next_time, PySem.W.mg_of X G a_next_time⟩
  have F_count : FunAt K mg "count" s_count := ⟨_, _, fun_mk (st := s_count) l_count e_count k_count, PySem.W.mg_of X G a_count⟩
  have F_groups : FunAt K mg "groups" s_groups := ⟨_, _, fun_mk (st := s_groups) l_groups e_groups k_groups, PySem.W.mg_of X G a_groups⟩
  have F_Always_shows : MethAt K CA "shows" "Always.shows" s_Always_shows := ⟨_, _, fun_mk (st := s_Always_shows) l_Always_shows e_Always_shows k_Always_shows, ⟨a_Always_shows, i_Always_shows, k_Always_shows⟩⟩
  have F_At_shows : MethAt K CT "shows" "At.shows" s_At_shows := ⟨_, _, fun_mk (st := s_At_shows) l_At_shows e_At_shows k_At_shows, ⟨a_At_shows, i_At_shows, k_At_shows⟩⟩
  have F_Never_shows : MethAt K CN "shows" "Never.shows" s_Never_shows := ⟨_, _, fun_mk (st := s_Never_shows) l_Never_shows e_Never_shows k_Never_shows, ⟨a_Never_shows, i_Never_shows, k_Never_shows⟩⟩
  have F__law_number : FunAt K mg "_law_number" s__law_number := ⟨_, _, fun_mk (st := s__law_number) l__law_number e__law_number k__law_number, PySem.W.mg_of X G a__law_number⟩
  have F__law_plain : FunAt K mg "_law_plain" s__law_plain := ⟨_, _, fun_mk (st := s__law_plain) l__law_plain e__law_plain k__law_plain, PySem.W.mg_of X G a__law_plain⟩
  have F__law_truths : FunAt K mg "_law_truths" s__law_truths := ⟨_, _, fun_mk (st := s__law_truths) l__law_truths e__law_truths k__law_truths, PySem.W.mg_of X G a__law_truths⟩
  have F__law_hands_right : FunAt K mg "_law_hands_right" s__law_hands_right := ⟨_, _, fun_mk (st := s__law_hands_right) l__law_hands_right e__law_hands_right k__law_hands_right, PySem.W.mg_of X G a__law_hands_right⟩
  have F__law_times_promises : FunC K mg "_law_times_promises" s__law_times_promises cO := ⟨_, _, _, _, _, _, _, _, _, l__law_times_promises, e__law_times_promises, k__law_times_promises, PySem.W.mg_of X G a__law_times_promises⟩
  have F__law_kinds_promises : FunAt K mg "_law_kinds_promises" s__law_kinds_promises := ⟨_, _, fun_mk (st := s__law_kinds_promises) l__law_kinds_promises e__law_kinds_promises k__law_kinds_promises, PySem.W.mg_of X G a__law_kinds_promises⟩
  have F__law_promises_right : FunAt K mg "_law_promises_right" s__law_promises_right := ⟨_, _, fun_mk (st := s__law_promises_right) l__law_promises_right e__law_promises_right k__law_promises_right, PySem.W.mg_of X G a__law_promises_right⟩
  refine ⟨PySem.W.fnOf "law" "law" (defArgs s_law) (defBody s_law) (defScope s_law) .none kV_law dc_law pm_law an_law cd_law ct_law, cO, PT, _, _, _, _, _, _, _, PySem.W.mg_of X G a__law_times_promises, l__law_times_promises, rfl, rfl, kc_O, k11_O, kn_O, fun s v => .of_eq rfl, fun base _ _ TB => ?_⟩
  have c_is_number := ok_is_number (P := l.prog) (w := w) (base := base) F_is_number b
  have c_common := ok_common (P := l.prog) (w := w) (base := base) F_common b
  have c_made := ok_made (P := l.prog) (w := w) (base := base) F_made b c_common
  have c_is_fraction := ok_is_fraction (P := l.prog) (w := w) (base := base) F_is_fraction b c_is_number c_common
  have c_plus := ok_plus (P := l.prog) (w := w) (base := base) F_plus b c_made
  have c_times := ok_times (P := l.prog) (w := w) (base := base) F_times b c_made
  have c_minus := ok_minus (P := l.prog) (w := w) (base := base) F_minus b c_plus c_times
  have c_less := ok_less (P := l.prog) (w := w) (base := base) F_less b
  have c_rest := ok_rest (P := l.prog) (w := w) (base := base) F_rest b
  have c_is_part := ok_is_part (P := l.prog) (w := w) (base := base) F_is_part b c_is_fraction
  have c_is_hand := ok_is_hand (P := l.prog) (w := w) (base := base) F_is_hand b c_is_number c_is_part
  have c_asked_hands := ok_asked_hands (P := l.prog) (w := w) (base := base) F_asked_hands b c_is_hand
  have c_asked_time := ok_asked_time (P := l.prog) (w := w) (base := base) F_asked_time b c_is_fraction
  have c_asked_hand := ok_asked_hand (P := l.prog) (w := w) (base := base) F_asked_hand b c_is_number
  have c_place_of := ok_place_of (P := l.prog) (w := w) (base := base) F_place_of b c_rest c_plus c_times
  have c_places := ok_places (P := l.prog) (w := w) (base := base) F_places b c_asked_hands c_asked_time c_place_of
  have c_later := ok_later (P := l.prog) (w := w) (base := base) F_later b c_asked_hands c_asked_time c_place_of
  have c_turned := ok_turned (P := l.prog) (w := w) (base := base) F_turned b c_asked_hands c_is_fraction c_plus c_rest
  have c_mirrored := ok_mirrored (P := l.prog) (w := w) (base := base) F_mirrored b c_asked_hands c_times c_rest
  have c_seen_from := ok_seen_from (P := l.prog) (w := w) (base := base) F_seen_from b c_asked_hands c_asked_hand c_minus c_rest
  have i_At := ok_At_init (P := l.prog) (w := w) (base := base) T F_At_init
  have i_Never := ok_Never_init (P := l.prog) (w := w) (base := base) T b F_Never_init
  have c_gap := ok_gap (P := l.prog) (w := w) (base := base) F_gap b c_common
  have c_clash := ok_clash (P := l.prog) (w := w) (base := base) F_clash b c_common c_minus c_times
  have c_undone := ok_undone (P := l.prog) (w := w) (base := base) F_undone b
  have c_brought := ok_brought (P := l.prog) (w := w) (base := base) F_brought b c_common c_minus c_times c_plus c_made c_undone
  have c_never_of := ok_never_of (P := l.prog) (w := w) (base := base) T F_never_of b i_Never c_clash
  have c_times_less := ok_times_less (P := l.prog) (w := w) (base := base) F_times_less b c_made c_rest c_times
  have c_told := ok_told (P := l.prog) (w := w) (base := base) T F_told b i_At i_Never c_asked_hands c_minus c_made c_brought c_never_of c_times_less
  have c_next_time := ok_next_time (P := l.prog) (w := w) (base := base) T F_next_time b c_told c_asked_time c_times_less c_minus c_plus
  have c_count := ok_count (P := l.prog) (w := w) (base := base) T F_count b c_told c_asked_time c_less c_minus c_times
  have c_groups := ok_groups (P := l.prog) (w := w) (base := base) F_groups b c_asked_hands c_asked_time c_place_of
  have m_Always_shows := ok_Always_shows (P := l.prog) (w := w) (base := base) T F_Always_shows b
  have m_At_shows := ok_At_shows (P := l.prog) (w := w) (base := base) T F_At_shows b c_is_fraction c_gap c_less c_place_of
  have m_Never_shows := ok_Never_shows (P := l.prog) (w := w) (base := base) T F_Never_shows b c_clash
  have x_asked_hands := xok_asked_hands (P := l.prog) (w := w) (base := base) TX F_asked_hands b c_is_hand
  have x_asked_time := xok_asked_time (P := l.prog) (w := w) (base := base) TX F_asked_time b c_is_fraction
  have x_told := xok_told (P := l.prog) (w := w) (base := base) TX F_told b x_asked_hands
  have x_next_time := xok_next_time (P := l.prog) (w := w) (base := base) T TX F_next_time b c_told c_asked_time x_told x_asked_time
  have x_count := xok_count (P := l.prog) (w := w) (base := base) T TX F_count b c_told c_asked_time x_told x_asked_time
  have c__law_number := ok__law_number (P := l.prog) (w := w) (base := base) F__law_number b
  have c__law_plain := ok__law_plain (P := l.prog) (w := w) (base := base) F__law_plain b
  have c__law_truths := ok__law_truths (P := l.prog) (w := w) (base := base) F__law_truths b
  have c__law_hands_right := ok__law_hands_right (P := l.prog) (w := w) (base := base) T F__law_hands_right b i_At i_Never m_Always_shows m_At_shows m_Never_shows c_told c_places c_groups c_later c_mirrored c_turned c_seen_from c_next_time c_count c__law_plain c__law_truths
  have c__law_times_promises := ok__law_times_promises (P := l.prog) (w := w) (base := base) T TX F__law_times_promises FN TB b c_next_time c_count x_next_time x_count c_places c_groups c_later c_mirrored c_turned c_seen_from
  have c__law_kinds_promises := ok__law_kinds_promises (P := l.prog) (w := w) (base := base) T F__law_kinds_promises b c_told c__law_times_promises
  have c__law_promises_right := ok__law_promises_right (P := l.prog) (w := w) (base := base) T F__law_promises_right b i_At i_Never m_Always_shows m_At_shows m_Never_shows c_told c__law_kinds_promises
  exact ok_law (P := l.prog) (w := w) (base := base) (fun_mk (st := s_law) l_law e_law k_law) b c__law_promises_right c__law_number c__law_hands_right
end HM
open PySem PySem.W PyProof.Rows in
set_option maxRecDepth 100000 in
set_option maxHeartbeats 0 in
theorem PySem.Challenge.cw_handsmeet_k08_whole_numbers_holds : PySem.Challenge.rw_handsmeet_k08_whole_numbers.Holds := by
  w_on; o_law; k_head; (case hw => w_witness2)
  k_fill
  refine HM.law_walkL (l := PySem.Challenge.rw_handsmeet_k08_whole_numbers) (k := 14) (x := "_law_script") "_law_times_promises" ((("_law_times_promises" : Str) ++ ".<locals>.") ++ "<lambda>") rfl rfl ⟨rfl, by decide, by decide⟩ ?R (fun w h Y => PySem.W.km_in_of Y) ?F
  case R => first | rfl | decide +kernel
  case F =>
    intro w mg fa h KX G hmg
    refine' HM.all_mk KX G hmg ?z_abs_ ?z_all_ ?z_any_ ?z_bool_ ?z_enum_ ?z_int_ ?z_isi_ ?z_len_ ?z_list_ ?z_max_ ?z_min_ ?z_range_ ?z_set_ ?z_sorted_ ?z_str_ ?z_sum_ ?z_tuple_ ?z_zip_ ?z_verr_ ?a_Always ?pg_Always ?hd_Always ?po_Always ?sa_Always ?ca_Always ?mo_Always ?mk_Always ?kc_Always ?a_At ?pg_At ?hd_At ?po_At ?sa_At ?ca_At ?mo_At ?mk_At ?kc_At ?a_Never ?pg_Never ?hd_Never ?po_Never ?sa_Never ?ca_Never ?mo_Never ?mk_Never ?kc_Never ?sg_get ?sg_tk ?ia_Always ?na_first ?na_every ?na_some ?ki_Always_Always ?ki_Always_At ?ki_Always_Never ?ki_At_Always ?ki_At_At ?ki_At_Never ?ki_Never_Always ?ki_Never_At ?ki_Never_Never ?a_DialError ?xx_DialError ?xk_DialError ?xt_DialError ?xg_DialError ?xh_DialError ?xs_DialError ?xd_DialError ?xa_DialError ?xm_DialError ?a_BadHands ?xx_BadHands ?xk_BadHands ?xt_BadHands ?xg_BadHands ?xh_BadHands ?xs_BadHands ?xd_BadHands ?xa_BadHands ?xm_BadHands ?a_BadTime ?xx_BadTime ?xk_BadTime ?xt_BadTime ?xg_BadTime ?xh_BadTime ?xs_BadTime ?xd_BadTime ?xa_BadTime ?xm_BadTime ?a_BadHand ?xx_BadHand ?xk_BadHand ?xt_BadHand ?xg_BadHand ?xh_BadHand ?xs_BadHand ?xd_BadHand ?xa_BadHand ?xm_BadHand ?a_NoTime ?xx_NoTime ?xk_NoTime ?xt_NoTime ?xg_NoTime ?xh_NoTime ?xs_NoTime ?xd_NoTime ?xa_NoTime ?xm_NoTime ?xu_BadHands ?xu_BadTime ?xu_BadHand ?xu_NoTime ?ki_BadHands_BadHands ?ki_BadHands_BadTime ?ki_BadHands_BadHand ?ki_BadHands_NoTime ?ki_BadTime_BadHands ?ki_BadTime_BadTime ?ki_BadTime_BadHand ?ki_BadTime_NoTime ?ki_BadHand_BadHands ?ki_BadHand_BadTime ?ki_BadHand_BadHand ?ki_BadHand_NoTime ?ki_NoTime_BadHands ?ki_NoTime_BadTime ?ki_NoTime_BadHand ?ki_NoTime_NoTime ?a__law_has_no_time ?l__law_has_no_time ?e__law_has_no_time ?k__law_has_no_time ?a_is_number ?l_is_number ?e_is_number ?k_is_number ?a_common ?l_common ?e_common ?k_common ?a_made ?l_made ?e_made ?k_made ?a_is_fraction ?l_is_fraction ?e_is_fraction ?k_is_fraction ?a_plus ?l_plus ?e_plus ?k_plus ?a_times ?l_times ?e_times ?k_times ?a_minus ?l_minus ?e_minus ?k_minus ?a_less ?l_less ?e_less ?k_less ?a_rest ?l_rest ?e_rest ?k_rest ?a_is_part ?l_is_part ?e_is_part ?k_is_part ?a_is_hand ?l_is_hand ?e_is_hand ?k_is_hand ?a_asked_hands ?l_asked_hands ?e_asked_hands ?k_asked_hands ?a_asked_time ?l_asked_time ?e_asked_time ?k_asked_time ?a_asked_hand ?l_asked_hand ?e_asked_hand ?k_asked_hand ?a_place_of ?l_place_of ?e_place_of ?k_place_of ?a_places ?l_places ?e_places ?k_places ?a_later ?l_later ?e_later ?k_later ?a_turned ?l_turned ?e_turned ?k_turned ?a_mirrored ?l_mirrored ?e_mirrored ?k_mirrored ?a_seen_from ?l_seen_from ?e_seen_from ?k_seen_from ?a_At_init ?i_At_init ?l_At_init ?e_At_init ?k_At_init ?a_Never_init ?i_Never_init ?l_Never_init ?e_Never_init ?k_Never_init ?a_gap ?l_gap ?e_gap ?k_gap ?a_clash ?l_clash ?e_clash ?k_clash ?a_undone ?l_undone ?e_undone ?k_undone ?a_brought ?l_brought ?e_brought ?k_brought ?a_never_of ?l_never_of ?e_never_of ?k_never_of ?a_times_less ?l_times_less ?e_times_less ?k_times_less ?a_told ?l_told ?e_told ?k_told ?a_next_time ?l_next_time ?e_next_time ?k_next_time ?a_count ?l_count ?e_count ?k_count ?a_groups ?l_groups ?e_groups ?k_groups ?a_Always_shows ?i_Always_shows ?l_Always_shows ?e_Always_shows ?k_Always_shows ?a_At_shows ?i_At_shows ?l_At_shows ?e_At_shows ?k_At_shows ?a_Never_shows ?i_Never_shows ?l_Never_shows ?e_Never_shows ?k_Never_shows ?a__law_number ?l__law_number ?e__law_number ?k__law_number ?a__law_plain ?l__law_plain ?e__law_plain ?k__law_plain ?a__law_truths ?l__law_truths ?e__law_truths ?k__law_truths ?a__law_hands_right ?l__law_hands_right ?e__law_hands_right ?k__law_hands_right ?a__law_times_promises ?l__law_times_promises ?e__law_times_promises ?k__law_times_promises ?kc_O ?k11_O ?kn_O ?a__law_kinds_promises ?l__law_kinds_promises ?e__law_kinds_promises ?k__law_kinds_promises ?a__law_promises_right ?l__law_promises_right ?e__law_promises_right ?k__law_promises_right ?a_law ?l_law ?e_law ?k_law
    (case z_abs_ => k_is)
    (case z_all_ => k_is)
    (case z_any_ => k_is)
    (case z_bool_ => k_is)
    (case z_enum_ => k_is)
    (case z_int_ => k_is)
    (case z_isi_ => k_is)
    (case z_len_ => k_is)
    (case z_list_ => k_is)
    (case z_max_ => k_is)
    (case z_min_ => k_is)
    (case z_range_ => k_is)
    (case z_set_ => k_is)
    (case z_sorted_ => k_is)
    (case z_str_ => k_is)
    (case z_sum_ => k_is)
    (case z_tuple_ => k_is)
    (case z_zip_ => k_is)
    (case z_verr_ => k_is)
    (case a_Always => k_is)
    (case pg_Always => k_is)
    (case hd_Always => k_is)
    (case po_Always => k_is)
    (case sa_Always => k_is)
    (case ca_Always => k_is)
    (case mo_Always => k_is)
    (case mk_Always => k_is)
    (case kc_Always => k_is)
    (case a_At => k_is)
    (case pg_At => k_is)
    (case hd_At => k_is)
    (case po_At => k_is)
    (case sa_At => k_is)
    (case ca_At => k_is)
    (case mo_At => k_is)
    (case mk_At => k_is)
    (case kc_At => k_is)
    (case a_Never => k_is)
    (case pg_Never => k_is)
    (case hd_Never => k_is)
    (case po_Never => k_is)
    (case sa_Never => k_is)
    (case ca_Never => k_is)
    (case mo_Never => k_is)
    (case mk_Never => k_is)
    (case kc_Never => k_is)
    (case sg_get => k_is)
    (case sg_tk => k_is)
    (case ia_Always => k_is)
    (case na_first => k_is)
    (case na_every => k_is)
    (case na_some => k_is)
    (case ki_Always_Always => kit_is)
    (case ki_Always_At => kit_is)
    (case ki_Always_Never => kit_is)
    (case ki_At_Always => kit_is)
    (case ki_At_At => kit_is)
    (case ki_At_Never => kit_is)
    (case ki_Never_Always => kit_is)
    (case ki_Never_At => kit_is)
    (case ki_Never_Never => kit_is)
    (case a_DialError => k_is)
    (case xx_DialError => k_exc)
    (case xk_DialError => k_is)
    (case xt_DialError => k_is)
    (case xg_DialError => k_is)
    (case xh_DialError => k_is)
    (case xs_DialError => k_is)
    (case xd_DialError => k_is)
    (case xa_DialError => k_is)
    (case xm_DialError => k_is)
    (case a_BadHands => k_is)
    (case xx_BadHands => k_exc)
    (case xk_BadHands => k_is)
    (case xt_BadHands => k_is)
    (case xg_BadHands => k_is)
    (case xh_BadHands => k_is)
    (case xs_BadHands => k_is)
    (case xd_BadHands => k_is)
    (case xa_BadHands => k_is)
    (case xm_BadHands => k_is)
    (case a_BadTime => k_is)
    (case xx_BadTime => k_exc)
    (case xk_BadTime => k_is)
    (case xt_BadTime => k_is)
    (case xg_BadTime => k_is)
    (case xh_BadTime => k_is)
    (case xs_BadTime => k_is)
    (case xd_BadTime => k_is)
    (case xa_BadTime => k_is)
    (case xm_BadTime => k_is)
    (case a_BadHand => k_is)
    (case xx_BadHand => k_exc)
    (case xk_BadHand => k_is)
    (case xt_BadHand => k_is)
    (case xg_BadHand => k_is)
    (case xh_BadHand => k_is)
    (case xs_BadHand => k_is)
    (case xd_BadHand => k_is)
    (case xa_BadHand => k_is)
    (case xm_BadHand => k_is)
    (case a_NoTime => k_is)
    (case xx_NoTime => k_exc)
    (case xk_NoTime => k_is)
    (case xt_NoTime => k_is)
    (case xg_NoTime => k_is)
    (case xh_NoTime => k_is)
    (case xs_NoTime => k_is)
    (case xd_NoTime => k_is)
    (case xa_NoTime => k_is)
    (case xm_NoTime => k_is)
    (case xu_BadHands => k_is)
    (case xu_BadTime => k_is)
    (case xu_BadHand => k_is)
    (case xu_NoTime => k_is)
    (case ki_BadHands_BadHands => kit_is)
    (case ki_BadHands_BadTime => kit_is)
    (case ki_BadHands_BadHand => kit_is)
    (case ki_BadHands_NoTime => kit_is)
    (case ki_BadTime_BadHands => kit_is)
    (case ki_BadTime_BadTime => kit_is)
    (case ki_BadTime_BadHand => kit_is)
    (case ki_BadTime_NoTime => kit_is)
    (case ki_BadHand_BadHands => kit_is)
    (case ki_BadHand_BadTime => kit_is)
    (case ki_BadHand_BadHand => kit_is)
    (case ki_BadHand_NoTime => kit_is)
    (case ki_NoTime_BadHands => kit_is)
    (case ki_NoTime_BadTime => kit_is)
    (case ki_NoTime_BadHand => kit_is)
    (case ki_NoTime_NoTime => kit_is)
    (case a__law_has_no_time => k_is)
    (case l__law_has_no_time => k_is)
    (case e__law_has_no_time => k_is)
    (case k__law_has_no_time => k_is)
    (case a_is_number => k_is)
    (case l_is_number => k_is)
    (case e_is_number => k_is)
    (case k_is_number => k_is)
    (case a_common => k_is)
    (case l_common => k_is)
    (case e_common => k_is)
    (case k_common => k_is)
    (case a_made => k_is)
    (case l_made => k_is)
    (case e_made => k_is)
    (case k_made => k_is)
    (case a_is_fraction => k_is)
    (case l_is_fraction => k_is)
    (case e_is_fraction => k_is)
    (case k_is_fraction => k_is)
    (case a_plus => k_is)
    (case l_plus => k_is)
    (case e_plus => k_is)
    (case k_plus => k_is)
    (case a_times => k_is)
    (case l_times => k_is)
    (case e_times => k_is)
    (case k_times => k_is)
    (case a_minus => k_is)
    (case l_minus => k_is)
    (case e_minus => k_is)
    (case k_minus => k_is)
    (case a_less => k_is)
    (case l_less => k_is)
    (case e_less => k_is)
    (case k_less => k_is)
    (case a_rest => k_is)
    (case l_rest => k_is)
    (case e_rest => k_is)
    (case k_rest => k_is)
    (case a_is_part => k_is)
    (case l_is_part => k_is)
    (case e_is_part => k_is)
    (case k_is_part => k_is)
    (case a_is_hand => k_is)
    (case l_is_hand => k_is)
    (case e_is_hand => k_is)
    (case k_is_hand => k_is)
    (case a_asked_hands => k_is)
    (case l_asked_hands => k_is)
    (case e_asked_hands => k_is)
    (case k_asked_hands => k_is)
    (case a_asked_time => k_is)
    (case l_asked_time => k_is)
    (case e_asked_time => k_is)
    (case k_asked_time => k_is)
    (case a_asked_hand => k_is)
    (case l_asked_hand => k_is)
    (case e_asked_hand => k_is)
    (case k_asked_hand => k_is)
    (case a_place_of => k_is)
    (case l_place_of => k_is)
    (case e_place_of => k_is)
    (case k_place_of => k_is)
    (case a_places => k_is)
    (case l_places => k_is)
    (case e_places => k_is)
    (case k_places => k_is)
    (case a_later => k_is)
    (case l_later => k_is)
    (case e_later => k_is)
    (case k_later => k_is)
    (case a_turned => k_is)
    (case l_turned => k_is)
    (case e_turned => k_is)
    (case k_turned => k_is)
    (case a_mirrored => k_is)
    (case l_mirrored => k_is)
    (case e_mirrored => k_is)
    (case k_mirrored => k_is)
    (case a_seen_from => k_is)
    (case l_seen_from => k_is)
    (case e_seen_from => k_is)
    (case k_seen_from => k_is)
    (case a_At_init => k_is)
    (case i_At_init => k_is)
    (case l_At_init => k_is)
    (case e_At_init => k_is)
    (case k_At_init => k_is)
    (case a_Never_init => k_is)
    (case i_Never_init => k_is)
    (case l_Never_init => k_is)
    (case e_Never_init => k_is)
    (case k_Never_init => k_is)
    (case a_gap => k_is)
    (case l_gap => k_is)
    (case e_gap => k_is)
    (case k_gap => k_is)
    (case a_clash => k_is)
    (case l_clash => k_is)
    (case e_clash => k_is)
    (case k_clash => k_is)
    (case a_undone => k_is)
    (case l_undone => k_is)
    (case e_undone => k_is)
    (case k_undone => k_is)
    (case a_brought => k_is)
    (case l_brought => k_is)
    (case e_brought => k_is)
    (case k_brought => k_is)
    (case a_never_of => k_is)
    (case l_never_of => k_is)
    (case e_never_of => k_is)
    (case k_never_of => k_is)
    (case a_times_less => k_is)
    (case l_times_less => k_is)
    (case e_times_less => k_is)
    (case k_times_less => k_is)
    (case a_told => k_is)
    (case l_told => k_is)
    (case e_told => k_is)
    (case k_told => k_is)
    (case a_next_time => k_is)
    (case l_next_time => k_is)
    (case e_next_time => k_is)
    (case k_next_time => k_is)
    (case a_count => k_is)
    (case l_count => k_is)
    (case e_count => k_is)
    (case k_count => k_is)
    (case a_groups => k_is)
    (case l_groups => k_is)
    (case e_groups => k_is)
    (case k_groups => k_is)
    (case a_Always_shows => k_is)
    (case i_Always_shows => k_is)
    (case l_Always_shows => k_is)
    (case e_Always_shows => k_is)
    (case k_Always_shows => k_is)
    (case a_At_shows => k_is)
    (case i_At_shows => k_is)
    (case l_At_shows => k_is)
    (case e_At_shows => k_is)
    (case k_At_shows => k_is)
    (case a_Never_shows => k_is)
    (case i_Never_shows => k_is)
    (case l_Never_shows => k_is)
    (case e_Never_shows => k_is)
    (case k_Never_shows => k_is)
    (case a__law_number => k_is)
    (case l__law_number => k_is)
    (case e__law_number => k_is)
    (case k__law_number => k_is)
    (case a__law_plain => k_is)
    (case l__law_plain => k_is)
    (case e__law_plain => k_is)
    (case k__law_plain => k_is)
    (case a__law_truths => k_is)
    (case l__law_truths => k_is)
    (case e__law_truths => k_is)
    (case k__law_truths => k_is)
    (case a__law_hands_right => k_is)
    (case l__law_hands_right => k_is)
    (case e__law_hands_right => k_is)
    (case k__law_hands_right => k_is)
    (case a__law_times_promises => k_is)
    (case l__law_times_promises => k_is)
    (case e__law_times_promises => k_is)
    (case k__law_times_promises => k_is)
    (case kc_O => k_is)
    (case k11_O => first | rfl | k_is)
    (case kn_O => first | rfl | k_is)
    (case a__law_kinds_promises => k_is)
    (case l__law_kinds_promises => k_is)
    (case e__law_kinds_promises => k_is)
    (case k__law_kinds_promises => k_is)
    (case a__law_promises_right => k_is)
    (case l__law_promises_right => k_is)
    (case e__law_promises_right => k_is)
    (case k__law_promises_right => k_is)
    (case a_law => k_is)
    (case l_law => k_is)
    (case e_law => k_is)
    (case k_law => k_is)
#print axioms PySem.Challenge.cw_handsmeet_k08_whole_numbers_holds
